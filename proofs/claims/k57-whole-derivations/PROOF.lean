import PyProof.Rows.All
import Wide.All
import OpenK.AllK
import Wide.FinOn
import HandS.ForMost
import HandS.Conv
import HandS.IsInst
import HandS.SortRule
import HandS.SortInts
import HandS.SetFor
import HandS.Strs
import HandS.Style
import HandS.CallLocal
import HandS.EndTab
import KE.KDictPairs
import KE.DataMinMax
import KE.DataFind
import KE.DataEq
import KE.DataCmp
import KE.DataIsa
import KE.KDictZip
import KE.KDictItemsList
import KE.KTurns
import HandS.ListItems
import HandS.Walk
import PySem.Challenge.RW_heapeffects_k57_whole_derivations
set_option linter.all false
/-! The plain law: sequences of insertions and removals, their survivors, adjacent exchanges. Core Lean only. -/
namespace HX

/-- an elementary step -/
inductive Stp where
  | ins (v : Int)
  | rem
  deriving DecidableEq

/-! ### sorted lists of ints -/
def put (v : Int) : List Int → List Int
  | [] => [v]
  | x :: r => if v ≤ x then v :: x :: r else x :: put v r
abbrev Up (l : List Int) : Prop := l.Pairwise (· ≤ ·)

theorem put_perm (v : Int) : ∀ l : List Int, (put v l).Perm (v :: l)
  | [] => List.Perm.refl _
  | x :: r => by
    unfold put
    split
    · exact List.Perm.refl _
    · exact ((put_perm v r).cons x).trans (List.Perm.swap v x r)
theorem put_up (v : Int) : ∀ {l : List Int}, Up l → Up (put v l)
  | [], _ => List.pairwise_singleton _ _
  | x :: r, h => by
    unfold put
    have h1 := List.pairwise_cons.mp h
    split
    · rename_i c
      refine List.pairwise_cons.mpr ⟨fun a ha => ?_, h⟩
      rcases List.mem_cons.mp ha with e | e
      · omega
      · have := h1.1 a e
        omega
    · rename_i c
      refine List.pairwise_cons.mpr ⟨fun a ha => ?_, put_up v h1.2⟩
      rcases List.mem_cons.mp ((put_perm v r).mem_iff.mp ha) with e | e
      · omega
      · exact h1.1 a e
theorem put_length (v : Int) (l : List Int) : (put v l).length = l.length + 1 := (put_perm v l).length_eq
theorem up_eq {a b : List Int} (ha : Up a) (hb : Up b) (p : a.Perm b) : a = b :=
  List.Perm.eq_of_pairwise (fun x y _ _ h1 h2 => Int.le_antisymm h1 h2) ha hb p
theorem up_tail {l : List Int} (h : Up l) : Up l.tail := by
  cases l with
  | nil => exact h
  | cons x r => exact (List.pairwise_cons.mp h).2
theorem put_comm (a b : Int) {l : List Int} (h : Up l) : put a (put b l) = put b (put a l) :=
  up_eq (put_up a (put_up b h)) (put_up b (put_up a h))
    (((put_perm a _).trans ((put_perm b l).cons a)).trans ((List.Perm.swap b a l).trans (((put_perm a l).cons b).symm.trans (put_perm b _).symm)))
theorem put_least {v : Int} {l : List Int} (h : ∀ x ∈ l, v ≤ x) : put v l = v :: l := by
  cases l with
  | nil => rfl
  | cons x r =>
    unfold put
    rw [if_pos (h x List.mem_cons_self)]
theorem tail_put {v m : Int} {r : List Int} (h : m ≤ v) (hs : Up (m :: r)) : (put v (m :: r)).tail = put v r := by
  show (if v ≤ m then v :: m :: r else m :: put v r).tail = put v r
  split
  · rename_i c
    have e : v = m := by omega
    subst e
    show v :: r = put v r
    exact (put_least (List.pairwise_cons.mp hs).1).symm
  · rfl

/-! ### running -/
def act : Stp → List Int → List Int
  | .ins v, h => put v h
  | .rem, h => h.tail
def run (ss : List Stp) (h : List Int) : List Int := ss.foldl (fun h s => act s h) h
def val? : Stp → Option Int
  | .ins v => some v
  | .rem => none
def insd (ss : List Stp) : List Int := ss.filterMap val?
def nrem (ss : List Stp) : Nat := ss.countP (· == .rem)
def surv (ss : List Stp) : List Int := run ss []

theorem act_up (s : Stp) {h : List Int} (u : Up h) : Up (act s h) := by
  cases s with
  | ins v => exact put_up v u
  | rem => exact up_tail u
theorem run_up : ∀ (ss : List Stp) {h : List Int}, Up h → Up (run ss h)
  | [], _, u => u
  | s :: r, _, u => run_up r (act_up s u)
theorem surv_up (ss : List Stp) : Up (surv ss) := run_up ss List.Pairwise.nil
theorem run_cons (s : Stp) (r : List Stp) (h : List Int) : run (s :: r) h = run r (act s h) := rfl
theorem run_append (a b : List Stp) (h : List Int) : run (a ++ b) h = run b (run a h) := List.foldl_append
theorem surv_snoc (ss : List Stp) (s : Stp) : surv (ss ++ [s]) = act s (surv ss) := run_append ss [s] []
theorem insd_append (a b : List Stp) : insd (a ++ b) = insd a ++ insd b := List.filterMap_append
theorem nrem_append (a b : List Stp) : nrem (a ++ b) = nrem a + nrem b := List.countP_append
theorem insd_perm {a b : List Stp} (p : a.Perm b) : (insd a).Perm (insd b) := p.filterMap _
theorem nrem_perm {a b : List Stp} (p : a.Perm b) : nrem a = nrem b := p.countP_eq _
theorem len_split : ∀ ss : List Stp, ss.length = (insd ss).length + nrem ss
  | [] => rfl
  | .ins v :: r => by
    have := len_split r
    show r.length + 1 = (insd r).length + 1 + nrem (.ins v :: r)
    have e : nrem (.ins v :: r) = nrem r := by
      unfold nrem
      rw [List.countP_cons]
      rfl
    omega
  | .rem :: r => by
    have := len_split r
    show r.length + 1 = (insd r).length + nrem (.rem :: r)
    have e : nrem (.rem :: r) = nrem r + 1 := by
      unfold nrem
      rw [List.countP_cons]
      rfl
    omega

/-! ### bags -/
/-- B is the bag of xs: its numbers ascend, each with how often it occurs -/
structure IsBag (B : List (Int × Int)) (xs : List Int) : Prop where
  asc : B.Pairwise fun a b => a.1 < b.1
  mem : ∀ n c, (n, c) ∈ B ↔ 0 < c ∧ c = (xs.count n : Int)

theorem IsBag.to {B : List (Int × Int)} {xs ys : List Int} (h : IsBag B xs) (p : xs.Perm ys) : IsBag B ys :=
  ⟨h.asc, fun n c => by rw [h.mem, p.count_eq]⟩
theorem asc_nodup {B : List (Int × Int)} (h : B.Pairwise fun a b => a.1 < b.1) : B.Nodup :=
  h.imp fun {a b} q e => by
    rw [e] at q
    omega
theorem IsBag.unique {B C : List (Int × Int)} {xs ys : List Int} (hB : IsBag B xs) (hC : IsBag C ys) (p : xs.Perm ys) : B = C := by
  have hC' := hC.to p.symm
  have hp : B.Perm C := (List.perm_ext_iff_of_nodup (asc_nodup hB.asc) (asc_nodup hC.asc)).mpr fun ⟨n, c⟩ => by rw [hB.mem, hC'.mem]
  exact List.Perm.eq_of_pairwise (le := fun a b => a.1 < b.1) (fun a b _ _ h1 h2 => by omega) hB.asc hC.asc hp
theorem IsBag.perm {B : List (Int × Int)} {xs ys : List Int} (hx : IsBag B xs) (hy : IsBag B ys) : xs.Perm ys := by
  rw [List.perm_iff_count]
  intro n
  by_cases h : 0 < xs.count n
  · have h1 := (hx.mem n (xs.count n)).mpr ⟨by omega, rfl⟩
    have := ((hy.mem n _).mp h1).2
    omega
  · by_cases h' : 0 < ys.count n
    · have h1 := (hy.mem n (ys.count n)).mpr ⟨by omega, rfl⟩
      have := ((hx.mem n _).mp h1).2
      omega
    · omega

/-- the bag of a list that ascends -/
def rle : List Int → List (Int × Int)
  | [] => []
  | x :: r => match rle r with
    | [] => [(x, 1)]
    | (y, c) :: t => if x = y then (y, c + 1) :: t else (x, 1) :: (y, c) :: t
def sortI (xs : List Int) : List Int := xs.foldr put []
theorem sortI_perm : ∀ xs : List Int, (sortI xs).Perm xs
  | [] => List.Perm.refl _
  | x :: r => (put_perm x (sortI r)).trans ((sortI_perm r).cons x)
theorem sortI_up : ∀ xs : List Int, Up (sortI xs)
  | [] => List.Pairwise.nil
  | x :: r => put_up x (sortI_up r)
def bag (xs : List Int) : List (Int × Int) := rle (sortI xs)

theorem rle_bag : ∀ {xs : List Int}, Up xs → IsBag (rle xs) xs ∧ (∀ y c t, rle xs = (y, c) :: t → xs.head? = some y)
  | [], _ => ⟨⟨List.Pairwise.nil, fun n c => by
      constructor
      · intro h
        cases h
      · intro ⟨h1, h2⟩
        rw [List.count_nil] at h2
        omega⟩, fun _ _ _ h => by cases h⟩
  | x :: r, u => by
    have u1 := List.pairwise_cons.mp u
    obtain ⟨ih, hd⟩ := rle_bag u1.2
    have cnt : ∀ n, (x :: r).count n = r.count n + if x = n then 1 else 0 := fun n => by
      rw [List.count_cons]
      simp only [beq_iff_eq]
    cases e : rle r with
    | nil =>
      have r0 : ∀ n, r.count n = 0 := fun n => by
        by_cases h : 0 < r.count n
        · have := (ih.mem n (r.count n)).mpr ⟨by omega, rfl⟩
          rw [e] at this
          cases this
        · omega
      have ee : rle (x :: r) = [(x, 1)] := by
        simp only [rle, e]
      rw [ee]
      refine ⟨⟨List.pairwise_singleton _ _, fun n c => ?_⟩, fun y c t h => ?_⟩
      · rw [cnt n, r0 n, List.mem_singleton, Prod.mk.injEq]
        by_cases h : x = n
        · subst h
          rw [if_pos rfl]
          simp only [true_and]
          omega
        · rw [if_neg h]
          constructor
          · rintro ⟨rfl, _⟩
            exact absurd rfl h
          · omega
      · have e1 : (x, (1 : Int)) = (y, c) := (List.cons.inj h).1
        rw [(Prod.mk.inj e1).1]
        rfl
    | cons p t =>
      obtain ⟨y, c⟩ := p
      have hy := hd y c t e
      have hyr : y ∈ r := List.mem_of_head? hy
      have hc := (ih.mem y c).mp (by rw [e]; exact List.mem_cons_self)
      have hasc := ih.asc
      rw [e] at hasc
      have ha := List.pairwise_cons.mp hasc
      have tl : ∀ n d, (n, d) ∈ t ↔ (0 < d ∧ d = (r.count n : Int)) ∧ n ≠ y := fun n d => by
        constructor
        · intro h
          refine ⟨(ih.mem n d).mp (by rw [e]; exact List.mem_cons_of_mem _ h), ?_⟩
          have := ha.1 _ h
          simp only at this
          omega
        · rintro ⟨h1, h2⟩
          have := (ih.mem n d).mpr h1
          rw [e] at this
          rcases List.mem_cons.mp this with z | z
          · exact absurd (Prod.mk.inj z).1 h2
          · exact z
      by_cases hxy : x = y
      · have ee : rle (x :: r) = (y, c + 1) :: t := by
          simp only [rle, e, if_pos hxy]
        rw [ee]
        refine ⟨⟨List.pairwise_cons.mpr ⟨fun a h => ha.1 a h, ha.2⟩, fun n d => ?_⟩, fun y' c' t' h => ?_⟩
        · rw [List.mem_cons, tl, cnt n, Prod.mk.injEq, hxy]
          by_cases h : y = n
          · subst h
            rw [if_pos rfl]
            simp only [true_and, ne_eq, not_true_eq_false, and_false, or_false]
            omega
          · rw [if_neg h]
            have h' : ¬ n = y := fun z => h z.symm
            simp only [h', false_and, false_or, ne_eq, not_false_eq_true, and_true, Nat.add_zero]
        · have e1 : (y, c + 1) = (y', c') := (List.cons.inj h).1
          rw [← (Prod.mk.inj e1).1, hxy]
          rfl
      · have ee : rle (x :: r) = (x, 1) :: (y, c) :: t := by
          simp only [rle, e, if_neg hxy]
        rw [ee]
        have hlt : x < y := by
          have := u1.1 y hyr
          omega
        have xr : r.count x = 0 := by
          rw [List.count_eq_zero]
          intro hx
          cases r with
          | nil => cases hx
          | cons z r' =>
            have ez : z = y := Option.some.inj hy
            subst ez
            rcases List.mem_cons.mp hx with q | q
            · omega
            · have := (List.pairwise_cons.mp u1.2).1 x q
              omega
        refine ⟨⟨List.pairwise_cons.mpr ⟨fun a h => ?_, hasc⟩, fun n d => ?_⟩, fun y' c' t' h => ?_⟩
        · rcases List.mem_cons.mp h with z | z
          · rw [z]
            exact hlt
          · have := ha.1 a z
            simp only at this ⊢
            omega
        · rw [List.mem_cons, ← e, ih.mem, cnt n, Prod.mk.injEq]
          by_cases h : x = n
          · subst h
            rw [if_pos rfl, xr]
            simp only [true_and]
            omega
          · rw [if_neg h]
            have h' : ¬ n = x := fun z => h z.symm
            simp only [h', false_and, false_or, Nat.add_zero]
        · have e1 : (x, (1 : Int)) = (y', c') := (List.cons.inj h).1
          rw [(Prod.mk.inj e1).1]
          rfl
theorem bag_is (xs : List Int) : IsBag (bag xs) xs := (rle_bag (sortI_up xs)).1.to (sortI_perm xs)
theorem bag_of {B : List (Int × Int)} {xs : List Int} (h : IsBag B xs) : B = bag xs := h.unique (bag_is xs) (List.Perm.refl _)
theorem bag_eq {xs ys : List Int} : bag xs = bag ys ↔ xs.Perm ys :=
  ⟨fun e => (bag_is xs).perm (e ▸ bag_is ys), fun p => (bag_is xs).unique (bag_is ys) p⟩

/-- the effect -/
def eff (ss : List Stp) : List (Int × Int) × Nat × List (Int × Int) := (bag (insd ss), nrem ss, bag (surv ss))
theorem surv_of_bag {a b : List Stp} (h : bag (surv a) = bag (surv b)) : surv a = surv b := up_eq (surv_up a) (surv_up b) (bag_eq.mp h)
theorem eff_iff {a b : List Stp} : eff a = eff b ↔ (insd a).Perm (insd b) ∧ nrem a = nrem b ∧ surv a = surv b := by
  unfold eff
  rw [Prod.mk.injEq, Prod.mk.injEq, bag_eq]
  constructor
  · rintro ⟨h1, h2, h3⟩
    exact ⟨h1, h2, surv_of_bag h3⟩
  · rintro ⟨h1, h2, h3⟩
    exact ⟨h1, h2, by rw [h3]⟩
end HX
set_option linter.all false
/-! Adjacent exchanges: paths, sorting by exchanges, inversions. -/
namespace HX

/-! ### exchanges -/
/-- items k and k + 1 change places -/
def swp {α : Type} : List α → Nat → List α
  | [], _ => []
  | a :: r, 0 => match r with
    | [] => [a]
    | b :: q => b :: a :: q
  | a :: r, k + 1 => a :: swp r k
theorem swp_at {α : Type} (p : List α) (a b : α) (q : List α) : swp (p ++ a :: b :: q) p.length = p ++ b :: a :: q := by
  induction p with
  | nil => rfl
  | cons x r ih =>
    show x :: swp (r ++ a :: b :: q) r.length = x :: (r ++ b :: a :: q)
    rw [ih]
theorem swp_split {α : Type} {l : List α} {k : Nat} (h : k + 1 < l.length) : ∃ p a b q, l = p ++ a :: b :: q ∧ p.length = k := by
  refine ⟨l.take k, l[k], l[k + 1], l.drop (k + 2), ?_, by rw [List.length_take]; omega⟩
  rw [← List.drop_eq_getElem_cons, ← List.drop_eq_getElem_cons, List.take_append_drop]
theorem swp_perm {α : Type} {l : List α} {k : Nat} (h : k + 1 < l.length) : (swp l k).Perm l := by
  obtain ⟨p, a, b, q, rfl, rfl⟩ := swp_split h
  rw [swp_at]
  exact (List.Perm.swap a b q).append_left p
theorem swp_len {α : Type} {l : List α} {k : Nat} (h : k + 1 < l.length) : (swp l k).length = l.length := (swp_perm h).length_eq
theorem swp_map {α β : Type} (f : α → β) {l : List α} {k : Nat} (h : k + 1 < l.length) : (swp l k).map f = swp (l.map f) k := by
  obtain ⟨p, a, b, q, rfl, rfl⟩ := swp_split h
  rw [swp_at, List.map_append, List.map_append]
  have := swp_at (p.map f) (f a) (f b) (q.map f)
  rw [List.length_map] at this
  exact this.symm
theorem swp_swp {α : Type} {l : List α} {k : Nat} (h : k + 1 < l.length) : swp (swp l k) k = l := by
  obtain ⟨p, a, b, q, rfl, rfl⟩ := swp_split h
  rw [swp_at, swp_at]
theorem swp_get0 {α : Type} {l : List α} {k : Nat} (h : k + 1 < l.length) : (swp l k)[k]? = l[k + 1]? := by
  obtain ⟨p, a, b, q, rfl, rfl⟩ := swp_split h
  rw [swp_at]
  simp
theorem swp_get1 {α : Type} {l : List α} {k : Nat} (h : k + 1 < l.length) : (swp l k)[k + 1]? = l[k]? := by
  obtain ⟨p, a, b, q, rfl, rfl⟩ := swp_split h
  rw [swp_at]
  simp
/-- by slices, as the text says it -/
theorem swp_cut {α : Type} {l : List α} {k : Nat} {a b : α} (ha : l[k]? = some a) (hb : l[k + 1]? = some b) : l.take k ++ [b, a] ++ l.drop (k + 2) = swp l k := by
  have h : k + 1 < l.length := (List.getElem?_eq_some_iff.mp hb).1
  obtain ⟨p, x, y, q, rfl, rfl⟩ := swp_split h
  rw [swp_at]
  have e1 : x = a := by simpa using ha
  have e2 : y = b := by simpa using hb
  subst e1 e2
  simp
theorem swp_eq_iff {α : Type} {l : List α} {k : Nat} (h : k + 1 < l.length) : swp l k = l ↔ l[k]? = l[k + 1]? := by
  obtain ⟨p, a, b, q, rfl, rfl⟩ := swp_split h
  rw [swp_at]
  simp
  rintro rfl
  rfl
theorem take_swp {α : Type} {l : List α} {k m : Nat} (h : k + 1 < l.length) (hm : k + 2 ≤ m) : (swp l k).take m = swp (l.take m) k := by
  obtain ⟨p, a, b, q, rfl, rfl⟩ := swp_split h
  rw [swp_at]
  obtain ⟨j, rfl⟩ : ∃ j, m = p.length + (j + 2) := ⟨m - (p.length + 2), by omega⟩
  rw [List.take_length_add_append, List.take_length_add_append]
  exact (swp_at p a b (q.take j)).symm
theorem drop_swp {α : Type} {l : List α} {k m : Nat} (h : k + 1 < l.length) (hm : k + 2 ≤ m) : (swp l k).drop m = l.drop m := by
  obtain ⟨p, a, b, q, rfl, rfl⟩ := swp_split h
  rw [swp_at]
  obtain ⟨j, rfl⟩ : ∃ j, m = p.length + (j + 2) := ⟨m - (p.length + 2), by omega⟩
  rw [List.drop_length_add_append, List.drop_length_add_append]
  rfl

/-! ### paths of allowed exchanges -/
/-- the exchange at k is allowed -/
structure Ok (a : List Stp) (k : Nat) : Prop where
  lt : k + 1 < a.length
  ne : a[k]? ≠ a[k + 1]?
  keep : surv (swp a k) = surv a
def Path : List Stp → List Nat → List Stp → Prop
  | a, [], b => a = b
  | a, k :: ks, b => Ok a k ∧ Path (swp a k) ks b
theorem Path.append : ∀ {ks js : List Nat} {a b c : List Stp}, Path a ks b → Path b js c → Path a (ks ++ js) c
  | [], _, _, _, _, h, h' => by
    have e : _ = _ := h
    subst e
    exact h'
  | k :: ks, js, _, _, _, h, h' => ⟨h.1, Path.append (ks := ks) h.2 h'⟩
theorem Ok.back {a : List Stp} {k : Nat} (h : Ok a k) : Ok (swp a k) k where
  lt := by
    rw [swp_len h.lt]
    exact h.lt
  ne := by
    rw [swp_get0 h.lt, swp_get1 h.lt]
    exact fun e => h.ne e.symm
  keep := by rw [swp_swp h.lt, h.keep]
theorem Path.back : ∀ {ks : List Nat} {a b : List Stp}, Path a ks b → Path b ks.reverse a
  | [], _, _, h => Eq.symm h
  | k :: ks, a, b, h => by
    rw [List.reverse_cons]
    refine Path.append (Path.back (ks := ks) h.2) ⟨h.1.back, ?_⟩
    show swp (swp a k) k = a
    exact swp_swp h.1.lt
theorem Path.surv : ∀ {ks : List Nat} {a b : List Stp}, Path a ks b → HX.surv b = HX.surv a
  | [], _, _, h => by
    have e : _ = _ := h
    rw [e]
  | k :: ks, a, b, h => (Path.surv (ks := ks) h.2).trans h.1.keep
theorem Path.perm : ∀ {ks : List Nat} {a b : List Stp}, Path a ks b → b.Perm a
  | [], _, _, h => by
    have e : _ = _ := h
    rw [e]
  | k :: ks, a, b, h => (Path.perm (ks := ks) h.2).trans (swp_perm h.1.lt)
theorem Path.cut : ∀ {ks js : List Nat} {a c : List Stp}, Path a (ks ++ js) c → ∃ b, Path a ks b ∧ Path b js c
  | [], _, a, _, h => ⟨a, rfl, h⟩
  | k :: ks, js, a, c, h => by
    obtain ⟨b, h1, h2⟩ := Path.cut (ks := ks) h.2
    exact ⟨b, ⟨h.1, h1⟩, h2⟩
theorem Path.eff {ks : List Nat} {a b : List Stp} (h : Path a ks b) : eff b = eff a := eff_iff.mpr ⟨insd_perm h.perm, nrem_perm h.perm, h.surv⟩
/-- behind the first m of them -/
theorem Path.at_ {ks : List Nat} {a c : List Stp} (h : Path a ks c) {m : Nat} {k : Nat} (hk : ks[m]? = some k) {b : List Stp} (hb : Path a (ks.take m) b) : Ok b k := by
  have uniq : ∀ {ks : List Nat} {a b b' : List Stp}, Path a ks b → Path a ks b' → b = b' := by
    intro ks
    induction ks with
    | nil => intro a b b' h h'; exact (show a = b from h).symm.trans (show a = b' from h')
    | cons k ks ih => intro a b b' h h'; exact ih h.2 h'.2
  have e : ks = ks.take m ++ k :: ks.drop (m + 1) := by
    obtain ⟨hl, e⟩ := List.getElem?_eq_some_iff.mp hk
    rw [← e, ← List.drop_eq_getElem_cons, List.take_append_drop]
  rw [e] at h
  obtain ⟨b', h1, h2⟩ := h.cut
  have := uniq h1 hb
  subst this
  exact h2.1

/-! ### rows: a role and a step; sorting by exchanges -/
abbrev Row := Int × Stp
def num : Stp → Int
  | .ins v => v
  | .rem => 0
/-- the last sort's order: a stands behind b -/
def gtL (a b : Row) : Bool := decide (b.1 < a.1) || (decide (a.1 = b.1) && decide (num b.2 < num a.2))
theorem gtL_iff {a b : Row} : gtL a b = true ↔ b.1 < a.1 ∨ (a.1 = b.1 ∧ num b.2 < num a.2) := by simp [gtL]
theorem gtL_not {a b : Row} : gtL a b = false ↔ a.1 < b.1 ∨ (a.1 = b.1 ∧ num a.2 ≤ num b.2) := by
  rw [← Bool.not_eq_true, gtL_iff]
  omega
/-- a chain of exchanges at places where gt holds -/
def Chain (gt : Row → Row → Bool) : List Row → List Nat → List Row → Prop
  | a, [], b => a = b
  | a, k :: ks, b => (∃ x y, a[k]? = some x ∧ a[k + 1]? = some y ∧ gt x y = true) ∧ Chain gt (swp a k) ks b
theorem Chain.append {gt : Row → Row → Bool} : ∀ {ks js : List Nat} {a b c : List Row}, Chain gt a ks b → Chain gt b js c → Chain gt a (ks ++ js) c
  | [], _, _, _, _, h, h' => by
    have e : _ = _ := h
    subst e
    exact h'
  | k :: ks, js, _, _, _, h, h' => ⟨h.1, Chain.append (ks := ks) h.2 h'⟩
theorem Chain.snoc {gt : Row → Row → Bool} {ks : List Nat} {k : Nat} {a b : List Row} (h : Chain gt a ks b) {x y : Row} (hx : b[k]? = some x) (hy : b[k + 1]? = some y) (g : gt x y = true) : Chain gt a (ks ++ [k]) (swp b k) :=
  h.append ⟨⟨x, y, hx, hy, g⟩, rfl⟩
theorem Chain.perm {gt : Row → Row → Bool} : ∀ {ks : List Nat} {a b : List Row}, Chain gt a ks b → b.Perm a
  | [], _, _, h => by
    have e : _ = _ := h
    rw [e]
  | k :: ks, a, b, h => by
    obtain ⟨⟨x, y, _, hy, _⟩, h2⟩ := h
    exact (Chain.perm (ks := ks) h2).trans (swp_perm (List.getElem?_eq_some_iff.mp hy).1)
theorem Chain.imp {gt gt' : Row → Row → Bool} (hg : ∀ x y, gt x y = true → gt' x y = true) : ∀ {ks : List Nat} {a b : List Row}, Chain gt a ks b → Chain gt' a ks b
  | [], _, _, h => h
  | k :: ks, a, b, h => by
    obtain ⟨⟨x, y, hx, hy, g⟩, h2⟩ := h
    exact ⟨⟨x, y, hx, hy, hg x y g⟩, Chain.imp hg (ks := ks) h2⟩

/-! ### inversions -/
def inv : List Row → Nat
  | [] => 0
  | x :: r => (r.countP fun y => gtL x y) + inv r
theorem inv_append (p q : List Row) : inv (p ++ q) = inv p + inv q + (p.map fun x => q.countP fun y => gtL x y).sum := by
  induction p with
  | nil => simp [inv]
  | cons x r ih =>
    show ((r ++ q).countP fun y => gtL x y) + inv (r ++ q) = _
    rw [ih, List.countP_append]
    simp only [inv, List.map_cons, List.sum_cons]
    omega
theorem inv_swp {l : List Row} {k : Nat} {x y : Row} (hx : l[k]? = some x) (hy : l[k + 1]? = some y) (g : gtL x y = true) : inv (swp l k) + 1 = inv l := by
  have h : k + 1 < l.length := (List.getElem?_eq_some_iff.mp hy).1
  obtain ⟨p, a, b, q, rfl, rfl⟩ := swp_split h
  rw [swp_at]
  have e1 : a = x := by simpa using hx
  have e2 : b = y := by simpa using hy
  subst e1 e2
  have g' : gtL b a = false := by
    rw [gtL_not]
    rw [gtL_iff] at g
    omega
  rw [inv_append, inv_append]
  have e : (p.map fun x => (b :: a :: q).countP fun y => gtL x y) = p.map fun x => (a :: b :: q).countP fun y => gtL x y := by
    apply List.map_congr_left
    intro x _
    exact (List.Perm.swap a b q).countP_eq _
  rw [e]
  simp only [inv, List.countP_cons, g, g']
  simp
  omega
theorem inv_le : ∀ l : List Row, 2 * inv l ≤ l.length * l.length
  | [] => Nat.le_refl _
  | x :: r => by
    have ih := inv_le r
    have c : (r.countP fun y => gtL x y) ≤ r.length := List.countP_le_length
    show 2 * ((r.countP fun y => gtL x y) + inv r) ≤ (r.length + 1) * (r.length + 1)
    have e : (r.length + 1) * (r.length + 1) = r.length * r.length + 2 * r.length + 1 := by
      rw [Nat.add_mul, Nat.mul_add]
      omega
    omega
theorem Chain.len : ∀ {ks : List Nat} {a b : List Row}, Chain gtL a ks b → ks.length + inv b = inv a
  | [], _, _, h => by
    have e : _ = _ := h
    subst e
    simp
  | k :: ks, a, b, h => by
    obtain ⟨⟨x, y, hx, hy, g⟩, h2⟩ := h
    have e1 := Chain.len (ks := ks) h2
    have e2 := inv_swp hx hy g
    rw [List.length_cons]
    omega
theorem Chain.short {ks : List Nat} {a b : List Row} (h : Chain gtL a ks b) : 2 * ks.length ≤ a.length * a.length := by
  have := h.len
  have := inv_le a
  omega

/-! ### insertion by exchanges: the loop's word -/
/-- rank: gt is the strict part of a total preorder -/
structure Rk (gt : Row → Row → Bool) : Prop where
  asym : ∀ x y, gt x y = true → gt y x = false
  tr : ∀ x y z, gt x y = false → gt y z = false → gt x z = false
abbrev Asc (gt : Row → Row → Bool) (l : List Row) : Prop := l.Pairwise fun x y => gt x y = false
/-- the turn 'end = e' at the place j: the items up to e but the one at j ascend, and the one at j stands ahead of those behind it -/
structure Mid (gt : Row → Row → Bool) (l : List Row) (e j : Nat) : Prop where
  je : j ≤ e
  el : e < l.length
  rest : Asc gt (l.take j ++ (l.take (e + 1)).drop (j + 1))
  ahead : ∀ x y, l[j]? = some x → y ∈ (l.take (e + 1)).drop (j + 1) → gt x y = false
theorem Mid.start {gt : Row → Row → Bool} {l : List Row} {e : Nat} (he : e < l.length) (h : Asc gt (l.take e)) : Mid gt l e e := by
  have e0 : (l.take (e + 1)).drop (e + 1) = [] := by
    rw [List.drop_eq_nil_iff, List.length_take]
    omega
  refine ⟨Nat.le_refl _, he, ?_, fun x y _ hy => ?_⟩
  · rw [e0, List.append_nil]
    exact h
  · rw [e0] at hy
    cases hy
theorem Mid.step {gt : Row → Row → Bool} (R : Rk gt) {l : List Row} {e j : Nat} (h : Mid gt l e (j + 1)) {x y : Row} (hx : l[j]? = some x) (hy : l[j + 1]? = some y) (g : gt x y = true) : Mid gt (swp l j) e j := by
  have hje := h.je
  have hel := h.el
  have hl : j + 1 < l.length := by omega
  have hsl := swp_len hl
  -- l.take (e+1) = p ++ x :: y :: q
  obtain ⟨p, a, b, q, ep, pj⟩ := swp_split (l := l.take (e + 1)) (k := j) (by rw [List.length_take]; omega)
  have hx' : (l.take (e + 1))[j]? = some x := by rw [List.getElem?_take_of_lt (by omega)]; exact hx
  have hy' : (l.take (e + 1))[j + 1]? = some y := by rw [List.getElem?_take_of_lt (by omega)]; exact hy
  rw [ep] at hx' hy'
  subst pj
  have e1 : a = x := by simpa using hx'
  have e2 : b = y := by simpa using hy'
  subst e1 e2
  have t1 : l.take (p.length + 1) = p ++ [a] := by
    have q1 : l.take (p.length + 1) = (l.take (e + 1)).take (p.length + 1) := by
      rw [List.take_take, Nat.min_eq_left (by omega)]
    rw [q1, ep, List.take_length_add_append]
    rfl
  have t0 : l.take p.length = p := by
    have q1 : l.take p.length = (l.take (e + 1)).take p.length := by
      rw [List.take_take, Nat.min_eq_left (by omega)]
    rw [q1, ep, List.take_left]
  have d2 : (l.take (e + 1)).drop (p.length + 2) = q := by
    rw [ep, List.drop_length_add_append]
    rfl
  have rest := h.rest
  rw [t1, show p.length + 1 + 1 = p.length + 2 from rfl, d2] at rest
  have ts : (swp l p.length).take (e + 1) = p ++ b :: a :: q := by
    rw [take_swp hl (by omega), ep, swp_at]
  have ts0 : (swp l p.length).take p.length = p := by
    have q1 : (swp l p.length).take p.length = ((swp l p.length).take (e + 1)).take p.length := by
      rw [List.take_take, Nat.min_eq_left (by omega)]
    rw [q1, ts, List.take_left]
  have ds : ((swp l p.length).take (e + 1)).drop (p.length + 1) = a :: q := by
    rw [ts, List.drop_length_add_append]
    rfl
  refine ⟨by omega, by omega, ?_, fun x' y' hx1 hy1 => ?_⟩
  · rw [ts0, ds]
    have : p ++ a :: q = p ++ [a] ++ q := by simp
    rw [this]
    exact rest
  · rw [swp_get0 hl] at hx1
    rw [hy] at hx1
    cases hx1
    rw [ds] at hy1
    rcases List.mem_cons.mp hy1 with z | z
    · rw [z]
      exact R.asym _ _ g
    · exact h.ahead b y' hy (by rw [show p.length + 1 + 1 = p.length + 2 from rfl, d2]; exact z)
theorem Mid.done {gt : Row → Row → Bool} (R : Rk gt) {l : List Row} {e j : Nat} (h : Mid gt l e j) (hz : j = 0 ∨ ∃ x y, l[j - 1]? = some x ∧ l[j]? = some y ∧ gt x y = false) : Asc gt (l.take (e + 1)) := by
  have hje := h.je
  have hel := h.el
  have hj : j < (l.take (e + 1)).length := by
    rw [List.length_take]
    omega
  obtain ⟨v, hv⟩ : ∃ v, (l.take (e + 1))[j]? = some v := ⟨_, List.getElem?_eq_getElem hj⟩
  have hv' : l[j]? = some v := by
    rw [List.getElem?_take_of_lt (by omega)] at hv
    exact hv
  have e0 : l.take (e + 1) = l.take j ++ v :: (l.take (e + 1)).drop (j + 1) := by
    have q1 : (l.take (e + 1)).take j = l.take j := by
      rw [List.take_take, Nat.min_eq_left (by omega)]
    rw [← q1]
    obtain ⟨hh, ev⟩ := List.getElem?_eq_some_iff.mp hv
    rw [← ev, ← List.drop_eq_getElem_cons, List.take_append_drop]
  have r := List.pairwise_append.mp h.rest
  rw [e0]
  refine List.pairwise_append.mpr ⟨r.1, List.pairwise_cons.mpr ⟨fun y hy => h.ahead v y hv' hy, r.2.1⟩, fun a ha b hb => ?_⟩
  rcases List.mem_cons.mp hb with z | z
  · subst z
    rcases hz with z0 | ⟨x, y, hx, hy, g⟩
    · subst z0
      simp at ha
    · rw [hv'] at hy
      cases hy
      obtain ⟨i, hi, ei⟩ := List.getElem_of_mem ha
      rw [List.length_take] at hi
      have hai : l[i]? = some a := by
        rw [← ei]
        rw [List.getElem_take, List.getElem?_eq_getElem]
      have jpos : j ≠ 0 := fun z => by
        rw [z] at hi
        omega
      by_cases q : i = j - 1
      · rw [q, hx] at hai
        cases hai
        exact g
      · refine R.tr _ x _ ?_ g
        have pr := List.pairwise_iff_getElem.mp r.1
        have h1 : i < (l.take j).length := by rw [List.length_take]; omega
        have h2 : j - 1 < (l.take j).length := by rw [List.length_take]; omega
        have := pr i (j - 1) h1 h2 (by omega)
        rw [ei] at this
        have ex : (l.take j)[j - 1] = x := by
          rw [List.getElem_take]
          exact (List.getElem?_eq_some_iff.mp hx).2
        rw [ex] at this
        exact this
  · exact r.2.2 a ha b z
end HX
set_option linter.all false
/-! Roles, the three sorts, the normal sequence. -/
namespace HX

/-! ### what the roles say -/
/-- a row that may stand: removals have the role 1, insertions 0 or 2 -/
def Vr (x : Row) : Prop := (x.1 = 1 ∧ x.2 = .rem) ∨ ((x.1 = 0 ∨ x.1 = 2) ∧ ∃ v, x.2 = .ins v)
abbrev Valid (l : List Row) : Prop := ∀ x ∈ l, Vr x
/-- the inserted values with a role -/
def vr (r : Int) (l : List Row) : List Int := l.filterMap fun x => if x.1 = r then val? x.2 else none
/-- hn: the present numbers that will be consumed; S: those that survive -/
def Good : List Row → List Int → List Int → Prop
  | [], hn, _ => hn = []
  | (r, .ins v) :: t, hn, S => if r = 2 then Good t hn (v :: S) else Good t (put v hn) S
  | (_, .rem) :: t, hn, S => (∀ s ∈ S, ∃ m q, hn = m :: q ∧ m ≤ s) ∧ Good t hn.tail S
/-- no survivor ahead of an equal number that is consumed -/
def NI (a b : Row) : Prop := a.1 = 2 → b.1 = 0 → a.2 ≠ b.2

theorem Good.mem : ∀ {l : List Row} {hn S S' : List Int}, (∀ x, x ∈ S' → x ∈ S) → Good l hn S → Good l hn S'
  | [], _, _, _, _, h => h
  | (r, .ins v) :: t, hn, S, S', e, h => by
    unfold Good at h ⊢
    split
    · rename_i c
      rw [if_pos c] at h
      refine Good.mem (l := t) (fun x hx => ?_) h
      rcases List.mem_cons.mp hx with z | z
      · rw [z]
        exact List.mem_cons_self
      · exact List.mem_cons_of_mem _ (e x z)
    · rename_i c
      rw [if_neg c] at h
      exact Good.mem (l := t) e h
  | (r, .rem) :: t, hn, S, S', e, h => ⟨fun s hs => h.1 s (e s hs), Good.mem (l := t) e h.2⟩
theorem good_surv : ∀ {l : List Row} {hn S h : List Int}, Up hn → Up h → h.Perm (hn ++ S) → Good l hn S → (run (l.map (·.2)) h).Perm (S ++ vr 2 l)
  | [], hn, S, h, _, _, p, g => by
    have g : hn = [] := g
    subst g
    show h.Perm (S ++ [])
    rw [List.append_nil]
    exact p
  | (r, .ins v) :: t, hn, S, h, uhn, uh, p, g => by
    show (run (t.map (·.2)) (put v h)).Perm _
    unfold Good at g
    by_cases c : r = 2
    · rw [if_pos c] at g
      have ih := good_surv (l := t) uhn (put_up v uh) (((put_perm v h).trans (p.cons v)).trans List.perm_middle.symm) g
      have e : vr 2 ((r, .ins v) :: t) = v :: vr 2 t := by simp [vr, c, val?]
      rw [e]
      exact ih.trans List.perm_middle.symm
    · rw [if_neg c] at g
      have ih := good_surv (l := t) (put_up v uhn) (put_up v uh) (((put_perm v h).trans (p.cons v)).trans ((put_perm v hn).append_right S).symm) g
      have e : vr 2 ((r, .ins v) :: t) = vr 2 t := by simp [vr, c]
      rw [e]
      exact ih
  | (r, .rem) :: t, hn, S, h, uhn, uh, p, g => by
    show (run (t.map (·.2)) h.tail).Perm _
    obtain ⟨g1, g2⟩ := g
    have e : vr 2 ((r, .rem) :: t) = vr 2 t := by
      by_cases c : r = 2 <;> simp [vr, c, val?]
    rw [e]
    refine good_surv (l := t) (up_tail uhn) (up_tail uh) ?_ g2
    cases hn with
    | nil =>
      have eS : S = [] := by
        cases S with
        | nil => rfl
        | cons s S' =>
          obtain ⟨m, q, z, _⟩ := g1 s List.mem_cons_self
          cases z
      subst eS
      have eh : h = [] := List.Perm.eq_nil p
      subst eh
      exact List.Perm.refl _
    | cons m q =>
      have least : ∀ x ∈ q ++ S, m ≤ x := fun x hx => by
        rcases List.mem_append.mp hx with z | z
        · exact (List.pairwise_cons.mp uhn).1 x z
        · obtain ⟨m', q', z1, z2⟩ := g1 x z
          rw [(List.cons.inj z1).1]
          exact z2
      cases h with
      | nil =>
        have := p.length_eq
        simp at this
      | cons y h' =>
        have e1 : y = m := by
          have hy : y ∈ m :: (q ++ S) := p.mem_iff.mp List.mem_cons_self
          have hm : m ∈ y :: h' := p.symm.mem_iff.mp List.mem_cons_self
          have a : m ≤ y := by
            rcases List.mem_cons.mp hy with z | z
            · omega
            · exact least y z
          have b : y ≤ m := by
            rcases List.mem_cons.mp hm with z | z
            · omega
            · exact (List.pairwise_cons.mp uh).1 m z
          omega
        subst e1
        exact List.Perm.cons_inv p
theorem good_surv0 {l : List Row} (g : Good l [] []) : (surv (l.map (·.2))).Perm (vr 2 l) := good_surv List.Pairwise.nil List.Pairwise.nil (List.Perm.refl _) g

/-! ### the roles are found step by step -/
theorem good_ins {v : Int} : ∀ {l : List Row} {hn S : List Int}, Good l hn S → Good (l ++ [(2, .ins v)]) hn S
  | [], hn, S, h => by
    show (if (2 : Int) = 2 then Good [] hn (v :: S) else Good [] (put v hn) S)
    rw [if_pos rfl]
    exact h
  | (r, .ins w) :: t, hn, S, h => by
    show (if r = 2 then Good (t ++ [(2, .ins v)]) hn (w :: S) else Good (t ++ [(2, .ins v)]) (put w hn) S)
    unfold Good at h
    split
    · rename_i c
      rw [if_pos c] at h
      exact good_ins h
    · rename_i c
      rw [if_neg c] at h
      exact good_ins h
  | (r, .rem) :: t, hn, S, h => ⟨h.1, good_ins h.2⟩
theorem good_rem0 : ∀ {l : List Row} {hn : List Int}, (∀ x ∈ l, x.1 ≠ 2) → Good l hn [] → Good (l ++ [(1, .rem)]) hn []
  | [], hn, _, h => by
    have h : hn = [] := h
    subst h
    exact ⟨fun s hs => (by cases hs), rfl⟩
  | (r, .ins w) :: t, hn, hl, h => by
    have c : r ≠ 2 := hl _ List.mem_cons_self
    show (if r = 2 then Good (t ++ [(1, .rem)]) hn [w] else Good (t ++ [(1, .rem)]) (put w hn) [])
    unfold Good at h
    rw [if_neg c] at h ⊢
    exact good_rem0 (fun x hx => hl x (List.mem_cons_of_mem _ hx)) h
  | (r, .rem) :: t, hn, hl, h => ⟨h.1, good_rem0 (fun x hx => hl x (List.mem_cons_of_mem _ hx)) h.2⟩
theorem good_flipB {v : Int} : ∀ {l : List Row} {hn So Sn : List Int}, Up hn → v ∈ So → (∀ x ∈ Sn, x ∈ So) → (∀ x ∈ Sn, v ≤ x) → (∀ w, (2, .ins w) ∈ l → v ≤ w) → Good l hn So → Good (l ++ [(1, .rem)]) (put v hn) Sn
  | [], hn, So, Sn, _, _, _, h2, _, g => by
    have g : hn = [] := g
    subst g
    exact ⟨fun s hs => ⟨v, [], rfl, h2 s hs⟩, rfl⟩
  | (r, .ins w) :: t, hn, So, Sn, u, hv, h1, h2, h3, g => by
    have h3' : ∀ w, (2, Stp.ins w) ∈ t → v ≤ w := fun w hw => h3 w (List.mem_cons_of_mem _ hw)
    show (if r = 2 then Good (t ++ [(1, .rem)]) (put v hn) (w :: Sn) else Good (t ++ [(1, .rem)]) (put w (put v hn)) Sn)
    unfold Good at g
    split
    · rename_i c
      rw [if_pos c] at g
      refine good_flipB (l := t) u (List.mem_cons_of_mem _ hv) (fun x hx => ?_) (fun x hx => ?_) h3' g
      · rcases List.mem_cons.mp hx with z | z
        · rw [z]
          exact List.mem_cons_self
        · exact List.mem_cons_of_mem _ (h1 x z)
      · rcases List.mem_cons.mp hx with z | z
        · rw [z]
          exact h3 w (by rw [c]; exact List.mem_cons_self)
        · exact h2 x z
    · rename_i c
      rw [if_neg c] at g
      rw [put_comm w v u]
      exact good_flipB (l := t) (put_up w u) hv h1 h2 h3' g
  | (r, .rem) :: t, hn, So, Sn, u, hv, h1, h2, h3, g => by
    obtain ⟨g1, g2⟩ := g
    obtain ⟨m, q, e, hm⟩ := g1 v hv
    subst e
    have h3' : ∀ w, (2, Stp.ins w) ∈ t → v ≤ w := fun w hw => h3 w (List.mem_cons_of_mem _ hw)
    refine ⟨fun s hs => ?_, ?_⟩
    · by_cases c : v ≤ m
      · refine ⟨v, m :: q, ?_, h2 s hs⟩
        show (if v ≤ m then v :: m :: q else m :: put v q) = _
        rw [if_pos c]
      · refine ⟨m, put v q, ?_, ?_⟩
        · show (if v ≤ m then v :: m :: q else m :: put v q) = _
          rw [if_neg c]
        · obtain ⟨m', q', e', hm'⟩ := g1 s (h1 s hs)
          rw [(List.cons.inj e').1]
          exact hm'
    · show Good (t ++ [(1, .rem)]) (put v (m :: q)).tail Sn
      rw [tail_put hm u]
      exact good_flipB (l := t) (up_tail u) hv h1 h2 h3' g2
theorem good_flip {v : Int} {B : List Row} : ∀ {A : List Row} {hn S : List Int}, Up hn → (∀ x ∈ S, v ≤ x) → (∀ w, (2, .ins w) ∈ A ++ B → v ≤ w) → Good (A ++ (2, .ins v) :: B) hn S → Good (A ++ (0, .ins v) :: B ++ [(1, .rem)]) hn S
  | [], hn, S, u, h2, h3, g => by
    show (if (0 : Int) = 2 then _ else Good (B ++ [(1, .rem)]) (put v hn) S)
    rw [if_neg (by decide)]
    have g : (if (2 : Int) = 2 then Good B hn (v :: S) else _) := g
    rw [if_pos rfl] at g
    exact good_flipB u List.mem_cons_self (fun x hx => List.mem_cons_of_mem _ hx) h2 (fun w hw => h3 w hw) g
  | (r, .ins w) :: t, hn, S, u, h2, h3, g => by
    have h3' : ∀ w, (2, Stp.ins w) ∈ t ++ B → v ≤ w := fun w hw => h3 w (List.mem_cons_of_mem _ hw)
    show (if r = 2 then Good (t ++ (0, .ins v) :: B ++ [(1, .rem)]) hn (w :: S) else Good (t ++ (0, .ins v) :: B ++ [(1, .rem)]) (put w hn) S)
    have g : (if r = 2 then Good (t ++ (2, .ins v) :: B) hn (w :: S) else Good (t ++ (2, .ins v) :: B) (put w hn) S) := g
    split
    · rename_i c
      rw [if_pos c] at g
      refine good_flip (A := t) u (fun x hx => ?_) h3' g
      rcases List.mem_cons.mp hx with z | z
      · rw [z]
        exact h3 w (by rw [c]; exact List.mem_cons_self)
      · exact h2 x z
    · rename_i c
      rw [if_neg c] at g
      exact good_flip (A := t) (put_up w u) h2 h3' g
  | (r, .rem) :: t, hn, S, u, h2, h3, g => by
    have h3' : ∀ w, (2, Stp.ins w) ∈ t ++ B → v ≤ w := fun w hw => h3 w (List.mem_cons_of_mem _ hw)
    exact ⟨g.1, good_flip (A := t) (up_tail u) h2 h3' g.2⟩

/-- the present numbers with their places -/
def pres : Nat → List Row → List (Int × Nat)
  | _, [] => []
  | k, (r, .ins v) :: t => if r = 2 then (v, k) :: pres (k + 1) t else pres (k + 1) t
  | k, (_, .rem) :: t => pres (k + 1) t
theorem pres_append : ∀ (k : Nat) (a b : List Row), pres k (a ++ b) = pres k a ++ pres (k + a.length) b
  | k, [], b => rfl
  | k, (r, .ins v) :: t, b => by
    have ih := pres_append (k + 1) t b
    have e : k + ((r, Stp.ins v) :: t).length = k + 1 + t.length := by
      rw [List.length_cons]
      omega
    rw [e]
    show (if r = 2 then (v, k) :: pres (k + 1) (t ++ b) else pres (k + 1) (t ++ b)) = (if r = 2 then (v, k) :: pres (k + 1) t else pres (k + 1) t) ++ _
    rw [ih]
    split <;> rfl
  | k, (r, .rem) :: t, b => by
    have ih := pres_append (k + 1) t b
    have e : k + ((r, Stp.rem) :: t).length = k + 1 + t.length := by
      rw [List.length_cons]
      omega
    rw [e]
    exact ih
theorem pres_mem : ∀ {k : Nat} {l : List Row} {v : Int} {j : Nat}, (v, j) ∈ pres k l → ∃ i, j = k + i ∧ l[i]? = some (2, .ins v)
  | k, (r, .ins w) :: t, v, j, h => by
    unfold pres at h
    split at h
    · rename_i c
      rcases List.mem_cons.mp h with z | z
      · cases z
        exact ⟨0, rfl, by rw [c]; rfl⟩
      · obtain ⟨i, e, hi⟩ := pres_mem z
        exact ⟨i + 1, by omega, hi⟩
    · obtain ⟨i, e, hi⟩ := pres_mem h
      exact ⟨i + 1, by omega, hi⟩
  | k, (r, .rem) :: t, v, j, h => by
    obtain ⟨i, e, hi⟩ := pres_mem (show (v, j) ∈ pres (k + 1) t from h)
    exact ⟨i + 1, by omega, hi⟩
theorem mem_pres : ∀ {k : Nat} {l : List Row} {v : Int} {i : Nat}, l[i]? = some (2, .ins v) → (v, k + i) ∈ pres k l
  | k, (r, .ins w) :: t, v, 0, h => by
    have e : (r, Stp.ins w) = (2, .ins v) := Option.some.inj h
    have e1 : r = 2 := (Prod.mk.inj e).1
    have e2 : w = v := Stp.ins.inj (Prod.mk.inj e).2
    subst e1 e2
    show (w, k) ∈ (if (2 : Int) = 2 then (w, k) :: pres (k + 1) t else pres (k + 1) t)
    rw [if_pos rfl]
    exact List.mem_cons_self
  | k, (r, .ins w) :: t, v, i + 1, h => by
    have ih := mem_pres (k := k + 1) (l := t) (i := i) (v := v) (by simpa using h)
    have e : k + (i + 1) = k + 1 + i := by omega
    rw [e]
    unfold pres
    split
    · exact List.mem_cons_of_mem _ ih
    · exact ih
  | k, (r, .rem) :: t, v, 0, h => by
    have e : (r, Stp.rem) = (2, .ins v) := Option.some.inj h
    cases e
  | k, (r, .rem) :: t, v, i + 1, h => by
    have ih := mem_pres (k := k + 1) (l := t) (i := i) (v := v) (by simpa using h)
    have e : k + (i + 1) = k + 1 + i := by omega
    rw [e]
    exact ih

/-- behind the steps ss: the roles so far, the present numbers -/
structure RI (ss : List Stp) (rs : List Int) (pr : List (Int × Nat)) : Prop where
  len : rs.length = ss.length
  pr : pr = pres 0 (rs.zip ss)
  good : Good (rs.zip ss) [] []
  valid : Valid (rs.zip ss)
  ni : (rs.zip ss).Pairwise NI
theorem RI.nil : RI [] [] [] := ⟨rfl, rfl, rfl, (fun x hx => absurd hx (by simp)), List.Pairwise.nil⟩
theorem zip_snoc {rs : List Int} {ss : List Stp} (h : rs.length = ss.length) (r : Int) (s : Stp) : (rs ++ [r]).zip (ss ++ [s]) = rs.zip ss ++ [(r, s)] := by
  rw [List.zip_append h]
  rfl
theorem RI.ins {ss : List Stp} {rs : List Int} {pr : List (Int × Nat)} (h : RI ss rs pr) (v : Int) : RI (ss ++ [.ins v]) (rs ++ [2]) (pr ++ [(v, ss.length)]) := by
  have z := zip_snoc h.len 2 (.ins v)
  refine ⟨by rw [List.length_append, List.length_append, h.len]; rfl, ?_, ?_, ?_, ?_⟩
  · rw [z, pres_append, ← h.pr, List.length_zip, h.len, Nat.min_self, Nat.zero_add]
    rfl
  · rw [z]
    exact good_ins h.good
  · rw [z]
    intro x hx
    rcases List.mem_append.mp hx with q | q
    · exact h.valid x q
    · rw [List.mem_singleton.mp q]
      exact .inr ⟨.inr rfl, v, rfl⟩
  · rw [z]
    refine List.pairwise_append.mpr ⟨h.ni, List.pairwise_singleton _ _, fun a ha b hb => ?_⟩
    rw [List.mem_singleton.mp hb]
    exact fun _ e => absurd (show (2 : Int) = 0 from e) (by decide)
theorem RI.rem0 {ss : List Stp} {rs : List Int} (h : RI ss rs []) : RI (ss ++ [.rem]) (rs ++ [1]) [] := by
  have z := zip_snoc h.len 1 .rem
  have no2 : ∀ x ∈ rs.zip ss, x.1 ≠ 2 := fun x hx e => by
    obtain ⟨i, hi, ei⟩ := List.getElem_of_mem hx
    rcases h.valid x hx with ⟨q, _⟩ | ⟨_, v, q⟩
    · rw [q] at e
      exact absurd e (by decide)
    · have ex : x = (2, .ins v) := Prod.ext e q
      have := mem_pres (k := 0) (l := rs.zip ss) (i := i) (v := v) (by rw [List.getElem?_eq_getElem hi, ei, ex])
      rw [← h.pr] at this
      cases this
  refine ⟨by rw [List.length_append, List.length_append, h.len]; rfl, ?_, ?_, ?_, ?_⟩
  · rw [z, pres_append, ← h.pr]
    rfl
  · rw [z]
    exact good_rem0 no2 h.good
  · rw [z]
    intro x hx
    rcases List.mem_append.mp hx with q | q
    · exact h.valid x q
    · rw [List.mem_singleton.mp q]
      exact .inl ⟨rfl, rfl⟩
  · rw [z]
    refine List.pairwise_append.mpr ⟨h.ni, List.pairwise_singleton _ _, fun a ha b hb => ?_⟩
    rw [List.mem_singleton.mp hb]
    exact fun _ e => absurd (show (1 : Int) = 0 from e) (by decide)
/-- the least of the pairs -/
def lexLe (a b : Int × Nat) : Prop := a.1 < b.1 ∨ (a.1 = b.1 ∧ a.2 ≤ b.2)
theorem RI.rem1 {ss : List Stp} {rs : List Int} {pr : List (Int × Nat)} (h : RI ss rs pr) {v : Int} {k : Nat} (hm : (v, k) ∈ pr) (hle : ∀ q ∈ pr, lexLe (v, k) q) : RI (ss ++ [.rem]) ((rs ++ [1]).set k 0) (pr.erase (v, k)) ∧ k < rs.length := by
  have hm' := hm
  rw [h.pr] at hm'
  obtain ⟨i, e, hi⟩ := pres_mem hm'
  have e : k = i := by omega
  subst e
  have hk : k < (rs.zip ss).length := (List.getElem?_eq_some_iff.mp hi).1
  have hkr : k < rs.length := by
    rw [List.length_zip] at hk
    omega
  have hks : k < ss.length := by
    rw [List.length_zip] at hk
    omega
  have es : ss[k]? = some (.ins v) := by
    have q : (rs.zip ss)[k]? = some (rs[k], ss[k]) := by rw [List.getElem?_eq_getElem hk, List.getElem_zip]
    rw [hi] at q
    have q' := (Prod.mk.inj (Option.some.inj q)).2
    rw [List.getElem?_eq_getElem hks, ← q']
  -- the rows, cut at k
  have cut : rs.zip ss = (rs.zip ss).take k ++ (2, .ins v) :: (rs.zip ss).drop (k + 1) := by
    obtain ⟨hh, ev⟩ := List.getElem?_eq_some_iff.mp hi
    rw [← ev, ← List.drop_eq_getElem_cons, List.take_append_drop]
  have z : ((rs ++ [1]).set k 0).zip (ss ++ [Stp.rem]) = (rs.zip ss).take k ++ (0, .ins v) :: (rs.zip ss).drop (k + 1) ++ [(1, .rem)] := by
    have q1 : (rs ++ [1]).set k 0 = rs.set k 0 ++ [1] := List.set_append_left _ _ hkr
    rw [q1, List.zip_append (by rw [List.length_set]; exact h.len)]
    have q2 : (rs.set k 0).zip ss = (rs.zip ss).set k (0, .ins v) := by
      apply List.ext_getElem?
      intro j
      rw [List.getElem?_set]
      by_cases c : k = j
      · subst c
        rw [if_pos rfl, if_pos hk]
        have : (rs.set k 0)[k]? = some 0 := List.getElem?_set_self hkr
        exact List.getElem?_zip_eq_some (z := ((0 : Int), Stp.ins v)) |>.mpr ⟨this, es⟩
      · rw [if_neg c]
        have : (rs.set k 0)[j]? = rs[j]? := List.getElem?_set_ne c
        simp only [List.zip, List.getElem?_zipWith, this]
    rw [q2, List.set_eq_take_append_cons_drop, if_pos hk]
    rfl
  have tl : ((rs.zip ss).take k).length = k := by
    rw [List.length_take]
    omega
  have two : ∀ w, (2, Stp.ins w) ∈ rs.zip ss → v ≤ w := fun w hw => by
    obtain ⟨j, hj, ej⟩ := List.getElem_of_mem hw
    have := mem_pres (k := 0) (l := rs.zip ss) (i := j) (v := w) (by rw [List.getElem?_eq_getElem hj, ej])
    rw [← h.pr] at this
    rcases hle _ this with q | ⟨q, _⟩
    · simp only at q
      omega
    · simp only at q
      omega
  have inA : ∀ x, x ∈ (rs.zip ss).take k → x ∈ rs.zip ss := fun x hx => List.mem_of_mem_take hx
  have inB : ∀ x, x ∈ (rs.zip ss).drop (k + 1) → x ∈ rs.zip ss := fun x hx => List.mem_of_mem_drop hx
  refine ⟨⟨?_, ?_, ?_, ?_, ?_⟩, hkr⟩
  · rw [List.length_set, List.length_append, List.length_append, h.len]
    rfl
  · rw [z, h.pr]
    have p1 : pres 0 (rs.zip ss) = pres 0 ((rs.zip ss).take k) ++ (v, k) :: pres (k + 1) ((rs.zip ss).drop (k + 1)) := by
      rw [cut, pres_append]
      rw [← cut, tl, Nat.zero_add]
      rfl
    have nin : (v, k) ∉ pres 0 ((rs.zip ss).take k) := fun hh => by
      obtain ⟨i, e, hi⟩ := pres_mem hh
      have := (List.getElem?_eq_some_iff.mp hi).1
      omega
    rw [p1, List.erase_append_right _ nin, List.erase_cons_head]
    rw [List.append_assoc, pres_append, tl, Nat.zero_add]
    show _ = _ ++ (if (0 : Int) = 2 then _ else pres (k + 1) ((rs.zip ss).drop (k + 1) ++ [(1, .rem)]))
    rw [if_neg (by decide), pres_append]
    show _ = _ ++ (_ ++ [])
    rw [List.append_nil]
  · rw [z]
    have g := h.good
    rw [cut] at g
    refine good_flip List.Pairwise.nil (fun x hx => by cases hx) (fun w hw => ?_) g
    rcases List.mem_append.mp hw with q | q
    · exact two w (inA _ q)
    · exact two w (inB _ q)
  · rw [z]
    intro x hx
    rcases List.mem_append.mp hx with q | q
    · rcases List.mem_append.mp q with q | q
      · exact h.valid x (inA x q)
      · rcases List.mem_cons.mp q with q | q
        · rw [q]
          exact .inr ⟨.inl rfl, v, rfl⟩
        · exact h.valid x (inB x q)
    · rw [List.mem_singleton.mp q]
      exact .inl ⟨rfl, rfl⟩
  · rw [z]
    have ni := h.ni
    rw [cut] at ni
    have n1 := List.pairwise_append.mp ni
    have n2 := List.pairwise_cons.mp n1.2.1
    refine List.pairwise_append.mpr ⟨List.pairwise_append.mpr ⟨n1.1, List.pairwise_cons.mpr ⟨fun b _ e => absurd (show (0 : Int) = 2 from e) (by decide), n2.2⟩, fun a ha b hb => ?_⟩, List.pairwise_singleton _ _, fun a ha b hb => ?_⟩
    · rcases List.mem_cons.mp hb with q | q
      · subst q
        intro e1 _ e2
        obtain ⟨j, hj, ej⟩ := List.getElem_of_mem ha
        have hj' : j < k := by
          rw [tl] at hj
          exact hj
        have ex : a = (2, .ins v) := Prod.ext e1 e2
        have : (rs.zip ss)[j]? = some (2, .ins v) := by
          rw [← ex, ← ej, List.getElem_take, List.getElem?_eq_getElem]
        have := mem_pres (k := 0) this
        rw [← h.pr] at this
        rcases hle _ this with q | ⟨_, q⟩
        · simp only at q
          omega
        · simp only at q
          omega
      · exact n1.2.2 a ha b (List.mem_cons_of_mem _ q)
    · rw [List.mem_singleton.mp hb]
      exact fun _ e => absurd (show (1 : Int) = 0 from e) (by decide)

/-! ### the first sort -/
/-- the survivors go behind -/
def gtS (a b : Row) : Bool := decide (a.1 = 2) && !decide (b.1 = 2)
/-- by the role -/
def gtR (a b : Row) : Bool := decide (b.1 < a.1)
theorem gtS_iff {a b : Row} : gtS a b = true ↔ a.1 = 2 ∧ b.1 ≠ 2 := by simp [gtS]
theorem gtR_L {a b : Row} (h : gtR a b = true) : gtL a b = true := by
  rw [gtL_iff]
  exact .inl (of_decide_eq_true h)
theorem Vr.le2 {x : Row} (h : Vr x) : x.1 ≤ 2 := by
  rcases h with ⟨e, _⟩ | ⟨e | e, _⟩ <;> omega
theorem rkS : Rk gtS where
  asym x y h := by
    rw [gtS_iff] at h
    rw [← Bool.not_eq_true, gtS_iff]
    exact fun q => h.2 q.1
  tr x y z h1 h2 := by
    rw [← Bool.not_eq_true, gtS_iff] at h1 h2 ⊢
    intro q
    by_cases c : y.1 = 2
    · exact h2 ⟨c, q.2⟩
    · exact h1 ⟨q.1, c⟩
theorem rkR : Rk gtR where
  asym x y h := by
    have := of_decide_eq_true h
    exact decide_eq_false (by omega)
  tr x y z h1 h2 := by
    have := of_decide_eq_false h1
    have := of_decide_eq_false h2
    exact decide_eq_false (by omega)
theorem rkL : Rk gtL where
  asym x y h := by
    rw [gtL_iff] at h
    rw [gtL_not]
    omega
  tr x y z h1 h2 := by
    rw [gtL_not] at h1 h2 ⊢
    omega

structure P1 (l : List Row) : Prop where
  good : Good l [] []
  valid : Valid l
  ni : l.Pairwise NI
theorem good_swap {x y : Row} {q : List Row} (hx : x.1 = 2) (vx : Vr x) (hy : y.1 ≠ 2) : ∀ {p : List Row} {hn S : List Int}, Good (p ++ x :: y :: q) hn S → Good (p ++ y :: x :: q) hn S
  | [], hn, S, g => by
    obtain ⟨rx, sx⟩ := x
    obtain ⟨ry, sy⟩ := y
    have hx : rx = 2 := hx
    have hy : ry ≠ 2 := hy
    subst hx
    rcases vx with ⟨e, _⟩ | ⟨_, v, e⟩
    · exact absurd (show (2 : Int) = 1 from e) (by decide)
    · have e : sx = .ins v := e
      subst e
      have g : (if (2 : Int) = 2 then Good ((ry, sy) :: q) hn (v :: S) else _) := g
      rw [if_pos rfl] at g
      cases sy with
      | ins w =>
        have g : (if ry = 2 then _ else Good q (put w hn) (v :: S)) := g
        rw [if_neg hy] at g
        show (if ry = 2 then _ else (if (2 : Int) = 2 then Good q (put w hn) (v :: S) else _))
        rw [if_neg hy, if_pos rfl]
        exact g
      | rem =>
        refine ⟨fun s hs => g.1 s (List.mem_cons_of_mem _ hs), ?_⟩
        show (if (2 : Int) = 2 then Good q hn.tail (v :: S) else _)
        rw [if_pos rfl]
        exact g.2
  | (r, .ins w) :: t, hn, S, g => by
    have g : (if r = 2 then Good (t ++ x :: y :: q) hn (w :: S) else Good (t ++ x :: y :: q) (put w hn) S) := g
    show (if r = 2 then Good (t ++ y :: x :: q) hn (w :: S) else Good (t ++ y :: x :: q) (put w hn) S)
    split
    · rename_i c
      rw [if_pos c] at g
      exact good_swap hx vx hy g
    · rename_i c
      rw [if_neg c] at g
      exact good_swap hx vx hy g
  | (r, .rem) :: t, hn, S, g => ⟨g.1, good_swap hx vx hy g.2⟩
theorem vr_perm {r : Int} {a b : List Row} (p : a.Perm b) : (vr r a).Perm (vr r b) := p.filterMap _
theorem ok_of {l : List Row} {k : Nat} {x y : Row} (hx : l[k]? = some x) (hy : l[k + 1]? = some y) (ne : x.2 ≠ y.2) (s1 : (surv (l.map (·.2))).Perm (vr 2 l)) (s2 : (surv ((swp l k).map (·.2))).Perm (vr 2 (swp l k))) : Ok (l.map (·.2)) k := by
  have h : k + 1 < l.length := (List.getElem?_eq_some_iff.mp hy).1
  refine ⟨by rw [List.length_map]; exact h, ?_, ?_⟩
  · rw [List.getElem?_map, List.getElem?_map, hx, hy]
    intro e
    exact ne (Option.some.inj e)
  · rw [← swp_map _ h]
    exact up_eq (surv_up _) (surv_up _) ((s2.trans (vr_perm (swp_perm h))).trans s1.symm)
theorem P1.swap {l : List Row} (P : P1 l) {k : Nat} {x y : Row} (hx : l[k]? = some x) (hy : l[k + 1]? = some y) (g : gtS x y = true) : P1 (swp l k) ∧ Ok (l.map (·.2)) k ∧ gtL x y = true := by
  have h : k + 1 < l.length := (List.getElem?_eq_some_iff.mp hy).1
  have mx : x ∈ l := List.mem_of_getElem? hx
  have my : y ∈ l := List.mem_of_getElem? hy
  rw [gtS_iff] at g
  have vy := P.valid y my
  have vx := P.valid x mx
  have P' : P1 (swp l k) := by
    obtain ⟨p, a, b, q, rfl, rfl⟩ := swp_split h
    have e1 : a = x := by simpa using hx
    have e2 : b = y := by simpa using hy
    subst e1 e2
    rw [swp_at]
    refine ⟨good_swap g.1 vx g.2 P.good, fun z hz => P.valid z (((List.Perm.swap a b q).append_left p).mem_iff.mp hz), ?_⟩
    have n1 := List.pairwise_append.mp P.ni
    have n2 := List.pairwise_cons.mp n1.2.1
    have n3 := List.pairwise_cons.mp n2.2
    refine List.pairwise_append.mpr ⟨n1.1, List.pairwise_cons.mpr ⟨fun z hz => ?_, List.pairwise_cons.mpr ⟨fun z hz => n2.1 z (List.mem_cons_of_mem _ hz), n3.2⟩⟩, fun z hz w hw => ?_⟩
    · exact fun e => absurd e g.2
    · exact n1.2.2 z hz w (((List.Perm.swap a b q).mem_iff).mp hw)
  refine ⟨P', ok_of hx hy ?_ (good_surv0 P.good) (good_surv0 P'.good), ?_⟩
  · rcases vy with ⟨_, e⟩ | ⟨e, _⟩
    · rcases vx with ⟨q, _⟩ | ⟨_, v, q⟩
      · rw [g.1] at q
        exact absurd q (by decide)
      · rw [e, q]
        exact fun z => by cases z
    · have y0 : y.1 = 0 := by
        rcases e with e | e
        · exact e
        · exact absurd e g.2
      have pr := List.pairwise_iff_getElem.mp P.ni k (k + 1) (by omega) h (by omega)
      have ex := (List.getElem?_eq_some_iff.mp hx).2
      have ey := (List.getElem?_eq_some_iff.mp hy).2
      rw [ex, ey] at pr
      exact pr g.1 y0
  · rw [gtL_iff]
    have := vy.le2
    have := g.1
    have := g.2
    omega

/-! ### the other sorts -/
/-- how many to be consumed are left, the survivors aside -/
def szs (n : Nat) (x : Row) : Nat := if x.1 = 2 then n else match x.2 with
  | .ins _ => n + 1
  | .rem => n - 1
def sz (l : List Row) (n : Nat) : Nat := l.foldl szs n
theorem szs_mono {n m : Nat} (h : n ≤ m) (x : Row) : szs n x ≤ szs m x := by
  unfold szs
  split
  · exact h
  · cases x.2 <;> simp only <;> omega
theorem sz_mono : ∀ (l : List Row) {n m : Nat}, n ≤ m → sz l n ≤ sz l m
  | [], _, _, h => h
  | x :: t, _, _, h => sz_mono t (szs_mono h x)
theorem sz_append (a b : List Row) (n : Nat) : sz (a ++ b) n = sz b (sz a n) := List.foldl_append
structure P2 (l : List Row) : Prop where
  valid : Valid l
  asc : Asc gtS l
  zero : sz l 0 = 0
theorem good_sz : ∀ {l : List Row} {hn S : List Int}, Valid l → Good l hn S → sz l hn.length = 0
  | [], hn, S, _, g => by
    have g : hn = [] := g
    subst g
    rfl
  | (r, .ins v) :: t, hn, S, vl, g => by
    have g : (if r = 2 then Good t hn (v :: S) else Good t (put v hn) S) := g
    have vt : Valid t := fun x hx => vl x (List.mem_cons_of_mem _ hx)
    show sz t (szs hn.length (r, .ins v)) = 0
    unfold szs
    by_cases c : r = 2
    · rw [if_pos c] at g ⊢
      exact good_sz vt g
    · rw [if_neg c] at g ⊢
      have := good_sz vt g
      rw [put_length] at this
      exact this
  | (r, .rem) :: t, hn, S, vl, g => by
    have vt : Valid t := fun x hx => vl x (List.mem_cons_of_mem _ hx)
    have r1 : r ≠ 2 := by
      rcases vl _ List.mem_cons_self with ⟨e, _⟩ | ⟨_, v, e⟩
      · intro z
        rw [show r = 1 from e] at z
        exact absurd z (by decide)
      · cases e
    show sz t (szs hn.length (r, .rem)) = 0
    unfold szs
    rw [if_neg r1]
    have := good_sz vt g.2
    rw [List.length_tail] at this
    exact this
theorem run_two : ∀ {l : List Row} {h : List Int}, Valid l → (∀ x ∈ l, x.1 = 2) → (run (l.map (·.2)) h).Perm (h ++ vr 2 l)
  | [], h, _, _ => by
    show h.Perm (h ++ [])
    rw [List.append_nil]
  | (r, s) :: t, h, vl, h2 => by
    have vt : Valid t := fun x hx => vl x (List.mem_cons_of_mem _ hx)
    have r2 : r = 2 := h2 _ List.mem_cons_self
    rcases vl _ List.mem_cons_self with ⟨e, _⟩ | ⟨_, v, e⟩
    · rw [show r = 1 from e] at r2
      exact absurd r2 (by decide)
    · have e : s = .ins v := e
      subst e
      show (run (t.map (·.2)) (put v h)).Perm _
      have ih := run_two (l := t) (h := put v h) vt fun x hx => h2 x (List.mem_cons_of_mem _ hx)
      have ev : vr 2 ((r, .ins v) :: t) = v :: vr 2 t := by simp [vr, r2, val?]
      rw [ev]
      exact ih.trans (((put_perm v h).append_right _).trans List.perm_middle.symm)
theorem run_asc : ∀ {l : List Row} {h : List Int}, Valid l → Asc gtS l → sz l h.length = 0 → (run (l.map (·.2)) h).Perm (vr 2 l)
  | [], h, _, _, z => by
    have e : h = [] := List.length_eq_zero_iff.mp z
    subst e
    exact List.Perm.refl _
  | (r, s) :: t, h, vl, a, z => by
    have vt : Valid t := fun x hx => vl x (List.mem_cons_of_mem _ hx)
    have ac := List.pairwise_cons.mp a
    by_cases c : r = 2
    · have all2 : ∀ x ∈ (r, s) :: t, x.1 = 2 := fun x hx => by
        rcases List.mem_cons.mp hx with e | e
        · rw [e]
          exact c
        · have := ac.1 x e
          rw [← Bool.not_eq_true, gtS_iff] at this
          by_cases q : x.1 = 2
          · exact q
          · exact absurd ⟨c, q⟩ this
      have still : ∀ {l : List Row} {n : Nat}, (∀ x ∈ l, x.1 = 2) → sz l n = n := by
        intro l
        induction l with
        | nil => intro n _; rfl
        | cons x l ih =>
          intro n hl
          show sz l (szs n x) = n
          unfold szs
          rw [if_pos (hl x List.mem_cons_self)]
          exact ih fun y hy => hl y (List.mem_cons_of_mem _ hy)
      rw [still all2] at z
      have e : h = [] := List.length_eq_zero_iff.mp z
      subst e
      have := run_two (h := []) vl all2
      rw [List.nil_append] at this
      exact this
    · have z' : sz t (szs h.length (r, s)) = 0 := z
      unfold szs at z'
      rw [if_neg c] at z'
      have ev : vr 2 ((r, s) :: t) = vr 2 t := by simp [vr, c]
      rw [ev]
      cases s with
      | ins v =>
        show (run (t.map (·.2)) (put v h)).Perm _
        refine run_asc vt ac.2 ?_
        rw [put_length]
        exact z'
      | rem =>
        show (run (t.map (·.2)) h.tail).Perm _
        refine run_asc vt ac.2 ?_
        rw [List.length_tail]
        exact z'
theorem P2.surv {l : List Row} (P : P2 l) : (HX.surv (l.map (·.2))).Perm (vr 2 l) := run_asc P.valid P.asc P.zero
theorem P2.swap {l : List Row} (P : P2 l) {k : Nat} {x y : Row} (hx : l[k]? = some x) (hy : l[k + 1]? = some y) (g : gtL x y = true) : P2 (swp l k) ∧ Ok (l.map (·.2)) k := by
  have h : k + 1 < l.length := (List.getElem?_eq_some_iff.mp hy).1
  have mx : x ∈ l := List.mem_of_getElem? hx
  have my : y ∈ l := List.mem_of_getElem? hy
  have vy := P.valid y my
  have vx := P.valid x mx
  rw [gtL_iff] at g
  have pr := List.pairwise_iff_getElem.mp P.asc k (k + 1) (by omega) h (by omega)
  have ex := (List.getElem?_eq_some_iff.mp hx).2
  have ey := (List.getElem?_eq_some_iff.mp hy).2
  rw [ex, ey, ← Bool.not_eq_true, gtS_iff] at pr
  have same : x.1 = 2 ↔ y.1 = 2 := by
    constructor
    · intro c
      by_cases q : y.1 = 2
      · exact q
      · exact absurd ⟨c, q⟩ pr
    · intro c
      have := vx.le2
      omega
  have ne : x.2 ≠ y.2 := by
    intro e
    rcases g with g | ⟨g1, g2⟩
    · rcases vx with ⟨a, b⟩ | ⟨a, v, b⟩
      · rw [b] at e
        rcases vy with ⟨a', _⟩ | ⟨_, w, b'⟩
        · omega
        · rw [b'] at e
          cases e
      · rw [b] at e
        rcases vy with ⟨_, b'⟩ | ⟨a', w, _⟩
        · rw [b'] at e
          cases e
        · have : x.1 = 2 ∧ y.1 = 0 := by omega
          have := same.mp this.1
          omega
    · rw [e] at g2
      omega
  have P' : P2 (swp l k) := by
    obtain ⟨p, a, b, q, rfl, rfl⟩ := swp_split h
    have e1 : a = x := by simpa using hx
    have e2 : b = y := by simpa using hy
    subst e1 e2
    rw [swp_at]
    refine ⟨fun z hz => P.valid z (((List.Perm.swap a b q).append_left p).mem_iff.mp hz), ?_, ?_⟩
    · have n1 := List.pairwise_append.mp P.asc
      have n2 := List.pairwise_cons.mp n1.2.1
      have n3 := List.pairwise_cons.mp n2.2
      refine List.pairwise_append.mpr ⟨n1.1, List.pairwise_cons.mpr ⟨fun z hz => ?_, List.pairwise_cons.mpr ⟨fun z hz => n2.1 z (List.mem_cons_of_mem _ hz), n3.2⟩⟩, fun z hz w hw => n1.2.2 z hz w (((List.Perm.swap a b q).mem_iff).mp hw)⟩
      rcases List.mem_cons.mp hz with e | e
      · rw [e, ← Bool.not_eq_true, gtS_iff]
        exact fun q => q.2 (same.mpr q.1)
      · exact n3.1 z e
    · have z := P.zero
      rw [sz_append] at z ⊢
      show sz q (szs (szs (sz p 0) b) a) = 0
      have z : sz q (szs (szs (sz p 0) a) b) = 0 := z
      refine Nat.le_zero.mp (Nat.le_trans (sz_mono q ?_) (Nat.le_of_eq z))
      unfold szs
      by_cases c : a.1 = 2
      · rw [if_pos c, if_pos (same.mp c)]
        split
        · exact Nat.le_refl _
        · exact absurd (same.mp c) (by assumption)
      · have c' : ¬ b.1 = 2 := fun q => c (same.mpr q)
        simp only [if_neg c, if_neg c']
        cases ea : a.2 with
        | ins v =>
          cases eb : b.2 with
          | ins w => exact Nat.le_refl _
          | rem =>
            -- a is 0, b is 1: not behind
            exfalso
            rcases vx with ⟨_, z1⟩ | ⟨z1, _⟩
            · rw [ea] at z1
              cases z1
            · rcases vy with ⟨z2, _⟩ | ⟨_, u, z2⟩
              · omega
              · rw [eb] at z2
                cases z2
        | rem =>
          cases eb : b.2 with
          | ins w => simp only; omega
          | rem => exact Nat.le_refl _
  exact ⟨P', ok_of hx hy ne P.surv P'.surv⟩

/-! ### all three -/
theorem chain1 : ∀ {ks : List Nat} {a b : List Row}, P1 a → Chain gtS a ks b → P1 b ∧ Path (a.map (·.2)) ks (b.map (·.2)) ∧ Chain gtL a ks b
  | [], a, b, P, h => by
    have e : a = b := h
    subst e
    exact ⟨P, rfl, rfl⟩
  | k :: ks, a, b, P, h => by
    obtain ⟨⟨x, y, hx, hy, g⟩, h2⟩ := h
    obtain ⟨P', o, gl⟩ := P.swap hx hy g
    obtain ⟨Q, p, c⟩ := chain1 P' h2
    have hl : k + 1 < a.length := (List.getElem?_eq_some_iff.mp hy).1
    rw [swp_map _ hl] at p
    exact ⟨Q, ⟨o, p⟩, ⟨x, y, hx, hy, gl⟩, c⟩
theorem chain2 : ∀ {ks : List Nat} {a b : List Row}, P2 a → Chain gtL a ks b → P2 b ∧ Path (a.map (·.2)) ks (b.map (·.2))
  | [], a, b, P, h => by
    have e : a = b := h
    subst e
    exact ⟨P, rfl⟩
  | k :: ks, a, b, P, h => by
    obtain ⟨⟨x, y, hx, hy, g⟩, h2⟩ := h
    obtain ⟨P', o⟩ := P.swap hx hy g
    obtain ⟨Q, p⟩ := chain2 P' h2
    have hl : k + 1 < a.length := (List.getElem?_eq_some_iff.mp hy).1
    rw [swp_map _ hl] at p
    exact ⟨Q, ⟨o, p⟩⟩
/-- exchanges that lead to the normal sequence -/
def Nrm (ss : List Stp) (es : List Nat) : Prop := ∃ rows : List Row, Valid rows ∧ Asc gtL rows ∧ Path ss es (rows.map (·.2)) ∧ 2 * es.length ≤ ss.length * ss.length ∧ (vr 2 rows).Perm (surv ss)
theorem nrm_of {ss : List Stp} {rs : List Int} {pr : List (Int × Nat)} (R : RI ss rs pr) {e1 e2 e3 : List Nat} {r1 r2 r3 : List Row} (c1 : Chain gtS (rs.zip ss) e1 r1) (a1 : Asc gtS r1) (c2 : Chain gtR r1 e2 r2) (c3 : Chain gtL r2 e3 r3) (a3 : Asc gtL r3) : Nrm ss (e1 ++ e2 ++ e3) := by
  have em : (rs.zip ss).map (·.2) = ss := by
    rw [List.map_snd_zip]
    rw [R.len]
    exact Nat.le_refl _
  obtain ⟨Q1, p1, l1⟩ := chain1 ⟨R.good, R.valid, R.ni⟩ c1
  have Q2 : P2 r1 := ⟨Q1.valid, a1, good_sz Q1.valid Q1.good⟩
  have l2 := c2.imp fun x y h => gtR_L h
  obtain ⟨Q3, p3⟩ := chain2 Q2 (l2.append c3)
  rw [em] at p1
  have all := p1.append p3
  have lc := (l1.append (l2.append c3)).short
  have zl : (rs.zip ss).length = ss.length := by
    rw [List.length_zip, R.len, Nat.min_self]
  refine ⟨r3, Q3.valid, a3, ?_, ?_, ?_⟩
  · rw [List.append_assoc]
    exact all
  · rw [List.append_assoc, ← zl]
    exact lc
  · have := Q3.surv
    rw [all.surv] at this
    exact this.symm
theorem rows_perm : ∀ {l : List Row}, Valid l → l.Perm ((vr 0 l).map (fun v => (0, Stp.ins v)) ++ (List.replicate (nrem (l.map (·.2))) (1, Stp.rem) ++ (vr 2 l).map (fun v => (2, Stp.ins v))))
  | [], _ => List.Perm.refl _
  | (r, s) :: t, vl => by
    have vt : Valid t := fun x hx => vl x (List.mem_cons_of_mem _ hx)
    have ih := rows_perm vt
    rcases vl _ List.mem_cons_self with ⟨e1, e2⟩ | ⟨e1, v, e2⟩
    · have e1 : r = 1 := e1
      have e2 : s = .rem := e2
      subst e1 e2
      have a0 : vr 0 (((1 : Int), Stp.rem) :: t) = vr 0 t := by simp [vr]
      have a2 : vr 2 (((1 : Int), Stp.rem) :: t) = vr 2 t := by simp [vr]
      have an : nrem ((((1 : Int), Stp.rem) :: t).map (·.2)) = nrem (t.map (·.2)) + 1 := by simp [nrem]
      rw [a0, a2, an, List.replicate_succ]
      exact (ih.cons _).trans List.perm_middle.symm
    · have e2 : s = .ins v := e2
      subst e2
      have an : nrem (((r, Stp.ins v) :: t).map (·.2)) = nrem (t.map (·.2)) := by simp [nrem]
      rcases e1 with e1 | e1
      · have e1 : r = 0 := e1
        subst e1
        have a0 : vr 0 (((0 : Int), Stp.ins v) :: t) = v :: vr 0 t := by simp [vr, val?]
        have a2 : vr 2 (((0 : Int), Stp.ins v) :: t) = vr 2 t := by simp [vr]
        rw [a0, a2, an]
        exact ih.cons _
      · have e1 : r = 2 := e1
        subst e1
        have a0 : vr 0 (((2 : Int), Stp.ins v) :: t) = vr 0 t := by simp [vr]
        have a2 : vr 2 (((2 : Int), Stp.ins v) :: t) = v :: vr 2 t := by simp [vr, val?]
        rw [a0, a2, an, List.map_cons, ← List.append_assoc]
        refine (ih.cons _).trans ?_
        rw [← List.append_assoc]
        exact List.perm_middle.symm
theorem insd_rows : ∀ {l : List Row}, Valid l → (insd (l.map (·.2))).Perm (vr 0 l ++ vr 2 l)
  | [], _ => List.Perm.refl _
  | (r, s) :: t, vl => by
    have vt : Valid t := fun x hx => vl x (List.mem_cons_of_mem _ hx)
    have ih := insd_rows vt
    rcases vl _ List.mem_cons_self with ⟨e1, e2⟩ | ⟨e1, v, e2⟩
    · have e1 : r = 1 := e1
      have e2 : s = .rem := e2
      subst e1 e2
      have a0 : vr 0 (((1 : Int), Stp.rem) :: t) = vr 0 t := by simp [vr]
      have a2 : vr 2 (((1 : Int), Stp.rem) :: t) = vr 2 t := by simp [vr]
      rw [a0, a2]
      exact ih
    · have e2 : s = .ins v := e2
      subst e2
      have ai : insd (((r, Stp.ins v) :: t).map (·.2)) = v :: insd (t.map (·.2)) := by simp [insd, val?]
      rw [ai]
      rcases e1 with e1 | e1
      · have e1 : r = 0 := e1
        subst e1
        have a0 : vr 0 (((0 : Int), Stp.ins v) :: t) = v :: vr 0 t := by simp [vr, val?]
        have a2 : vr 2 (((0 : Int), Stp.ins v) :: t) = vr 2 t := by simp [vr]
        rw [a0, a2]
        exact ih.cons _
      · have e1 : r = 2 := e1
        subst e1
        have a0 : vr 0 (((2 : Int), Stp.ins v) :: t) = vr 0 t := by simp [vr]
        have a2 : vr 2 (((2 : Int), Stp.ins v) :: t) = v :: vr 2 t := by simp [vr, val?]
        rw [a0, a2]
        exact (ih.cons _).trans List.perm_middle.symm
/-- one effect, one normal sequence -/
theorem nrm_eq {a b : List Stp} (e : eff a = eff b) {ra rb : List Row} (va : Valid ra) (vb : Valid rb) (sa : Asc gtL ra) (sb : Asc gtL rb) (pa : (ra.map (·.2)).Perm a) (pb : (rb.map (·.2)).Perm b) (ta : (vr 2 ra).Perm (surv a)) (tb : (vr 2 rb).Perm (surv b)) : ra = rb := by
  obtain ⟨h1, h2, h3⟩ := eff_iff.mp e
  have t2 : (vr 2 ra).Perm (vr 2 rb) := by
    rw [h3] at ta
    exact ta.trans tb.symm
  have t0 : (vr 0 ra).Perm (vr 0 rb) := by
    have q : (vr 0 ra ++ vr 2 ra).Perm (vr 0 rb ++ vr 2 rb) := ((insd_rows va).symm.trans ((insd_perm pa).trans (h1.trans (insd_perm pb).symm))).trans (insd_rows vb)
    have q2 : (vr 0 ra ++ vr 2 ra).Perm (vr 0 rb ++ vr 2 ra) := q.trans (t2.symm.append_left _)
    exact (List.perm_append_right_iff _).mp q2
  have tn : nrem (ra.map (·.2)) = nrem (rb.map (·.2)) := (nrem_perm pa).trans (h2.trans (nrem_perm pb).symm)
  have p : ra.Perm rb := by
    refine (rows_perm va).trans (List.Perm.trans ?_ (rows_perm vb).symm)
    rw [tn]
    exact (t0.map _).append ((List.Perm.refl _).append (t2.map _))
  refine List.Perm.eq_of_pairwise (le := fun x y => gtL x y = false) (fun x y hx hy q1 q2 => ?_) sa sb p
  rw [gtL_not] at q1 q2
  have e1 : x.1 = y.1 := by omega
  have e2 : num x.2 = num y.2 := by omega
  refine Prod.ext e1 ?_
  rcases va x hx with ⟨a1, a2⟩ | ⟨a1, v, a2⟩
  · rcases vb y hy with ⟨_, b2⟩ | ⟨b1, _, _⟩
    · rw [a2, b2]
    · omega
  · rcases vb y hy with ⟨b1, _⟩ | ⟨_, w, b2⟩
    · omega
    · rw [a2, b2] at e2 ⊢
      rw [show v = w from e2]
theorem nrm_join {a b : List Stp} {es js : List Nat} (A : Nrm a es) (B : Nrm b js) (e : eff a = eff b) : Path a (es ++ js.reverse) b ∧ (es ++ js.reverse).length ≤ a.length * a.length := by
  obtain ⟨ra, va, sa, pa, la, ta⟩ := A
  obtain ⟨rb, vb, sb, pb, lb, tb⟩ := B
  have er := nrm_eq e va vb sa sb pa.perm pb.perm ta tb
  subst er
  refine ⟨pa.append pb.back, ?_⟩
  have el : b.length = a.length := pb.perm.length_eq.symm.trans pa.perm.length_eq
  rw [el] at lb
  rw [List.length_append, List.length_reverse]
  omega
end HX
set_option Elab.async false
set_option linter.all false
set_option maxRecDepth 100000
/-! Rules by data: comparisons, min, remove, isinstance, repr; what keeps data. -/
namespace HX
open PySem PySem.Spec PyProof.Rows L2

/-! ### data -/
/-- a pair of ints -/
def pD (p : Int × Int) : PyData := .tuple [.int p.1, .int p.2]
def stepD : Stp → PyData
  | .ins v => .tuple [.str "insert", .int v, .int 1]
  | .rem => .tuple [.str "remove", .int 1]
def seqD (ss : List Stp) : PyData := .list (ss.map stepD)
def bagD (B : List (Int × Int)) : PyData := .tuple (B.map pD)
def effD (e : List (Int × Int) × Nat × List (Int × Int)) : PyData := .tuple [bagD e.1, .int e.2.1, bagD e.2.2]

theorem plainAll_map {α : Type} (f : α → PyData) (h : ∀ x, (f x).plain = true) : ∀ l : List α, PyData.plainAll (l.map f) = true
  | [] => rfl
  | x :: r => by
    show ((f x).plain && PyData.plainAll (r.map f)) = true
    rw [h x, plainAll_map f h r]
    rfl
theorem plain_pD (p : Int × Int) : (pD p).plain = true := rfl
theorem plain_stepD (s : Stp) : (stepD s).plain = true := by cases s <;> rfl
theorem plain_seqD (ss : List Stp) : (seqD ss).plain = true := plainAll_map stepD plain_stepD ss
theorem plain_bagD (B : List (Int × Int)) : (bagD B).plain = true := plainAll_map pD plain_pD B
theorem plain_effD (e : List (Int × Int) × Nat × List (Int × Int)) : (effD e).plain = true := by
  show ((bagD e.1).plain && (true && ((bagD e.2.2).plain && true))) = true
  rw [plain_bagD, plain_bagD]
  rfl
theorem depthAll_map {α : Type} (f : α → PyData) (n : Nat) (h : ∀ x, (f x).depth ≤ n) : ∀ l : List α, PyData.depthAll (l.map f) ≤ n
  | [] => Nat.zero_le _
  | x :: r => Nat.max_le.mpr ⟨h x, depthAll_map f n h r⟩
theorem depth_pD (p : Int × Int) : (pD p).depth ≤ 1 := by
  show max 0 (max 0 0) + 1 ≤ 1
  decide
theorem depth_stepD (s : Stp) : (stepD s).depth ≤ 1 := by
  cases s
  · show max 0 (max 0 (max 0 0)) + 1 ≤ 1
    decide
  · show max 0 (max 0 0) + 1 ≤ 1
    decide
theorem depth_seqD (ss : List Stp) : (seqD ss).depth ≤ 2 := Nat.succ_le_succ (depthAll_map stepD 1 depth_stepD ss)
theorem depth_bagD (B : List (Int × Int)) : (bagD B).depth ≤ 2 := Nat.succ_le_succ (depthAll_map pD 1 depth_pD B)
theorem depth_effD (e : List (Int × Int) × Nat × List (Int × Int)) : (effD e).depth ≤ 3 :=
  Nat.succ_le_succ (Nat.max_le.mpr ⟨depth_bagD _, Nat.max_le.mpr ⟨Nat.zero_le _, Nat.max_le.mpr ⟨depth_bagD _, Nat.zero_le _⟩⟩⟩)

/-! equality of data -/
theorem eqv_true_iff {α : Type} (f : α → PyData) (hf : ∀ x y, PyData.eqv (f x) (f y) = true ↔ x = y) : ∀ a b : List α, PyData.eqvAll (a.map f) (b.map f) = true ↔ a = b
  | [], [] => by simp [PyData.eqvAll]
  | [], _ :: _ => by simp [PyData.eqvAll]
  | _ :: _, [] => by simp [PyData.eqvAll]
  | x :: xs, y :: ys => by
    show (PyData.eqv (f x) (f y) && PyData.eqvAll (xs.map f) (ys.map f)) = true ↔ _
    rw [Bool.and_eq_true, hf, eqv_true_iff f hf xs ys, List.cons.injEq]
theorem eqv_pD (p q : Int × Int) : PyData.eqv (pD p) (pD q) = true ↔ p = q := by
  show ((p.1 == q.1) && ((p.2 == q.2) && true)) = true ↔ _
  rw [Bool.and_true, Bool.and_eq_true, beq_iff_eq, beq_iff_eq, Prod.ext_iff]
theorem eqv_stepD (s t : Stp) : PyData.eqv (stepD s) (stepD t) = true ↔ s = t := by
  cases s with
  | ins v =>
    cases t with
    | ins w =>
      show ((("insert" : Str) == ("insert" : Str)) && ((v == w) && ((1 : Int) == 1 && true))) = true ↔ _
      rw [Bool.and_eq_true, Bool.and_eq_true, beq_iff_eq, beq_iff_eq]
      constructor
      · rintro ⟨_, h, _⟩
        rw [h]
      · intro h
        exact ⟨rfl, Stp.ins.inj h, rfl⟩
    | rem =>
      constructor
      · intro h
        have h : ((("insert" : Str) == ("remove" : Str)) && ((v == 1) && false)) = true := h
        rw [Bool.and_false, Bool.and_false] at h
        cases h
      · intro h
        cases h
  | rem =>
    cases t with
    | ins w =>
      constructor
      · intro h
        have h : ((("remove" : Str) == ("insert" : Str)) && (((1 : Int) == w) && false)) = true := h
        rw [Bool.and_false, Bool.and_false] at h
        cases h
      · intro h
        cases h
    | rem => exact ⟨fun _ => rfl, fun _ => by decide +kernel⟩
theorem eqv_seqD (a b : List Stp) : PyData.eqv (seqD a) (seqD b) = true ↔ a = b := eqv_true_iff stepD eqv_stepD a b
theorem eqv_bagD (a b : List (Int × Int)) : PyData.eqv (bagD a) (bagD b) = true ↔ a = b := eqv_true_iff pD eqv_pD a b
theorem eqv_effD (a b : List (Int × Int) × Nat × List (Int × Int)) : PyData.eqv (effD a) (effD b) = true ↔ a = b := by
  show (PyData.eqv (bagD a.1) (bagD b.1) && (((a.2.1 : Int) == (b.2.1 : Int)) && (PyData.eqv (bagD a.2.2) (bagD b.2.2) && true))) = true ↔ _
  rw [Bool.and_true, Bool.and_eq_true, Bool.and_eq_true, eqv_bagD, eqv_bagD, beq_iff_eq, Prod.ext_iff, Prod.ext_iff]
  constructor
  · rintro ⟨h1, h2, h3⟩
    exact ⟨h1, by omega, h3⟩
  · rintro ⟨h1, h2, h3⟩
    exact ⟨h1, by omega, h3⟩
theorem eqv_dec {α : Type} [DecidableEq α] {f : α → PyData} (hf : ∀ x y, PyData.eqv (f x) (f y) = true ↔ x = y) (a b : α) : PyData.eqv (f a) (f b) = decide (a = b) := by
  rw [Bool.eq_iff_iff, hf, decide_eq_true_iff]

/-! ### comparisons by data -/
def rEqP (K : PySem.W.Frag) : R2 := fun x y H Q => ∃ d e, Dp K H x d ∧ Dp K H y e ∧ d.plain = true ∧ e.plain = true ∧ d.depth ≤ 60 ∧ Q (.bl (PyData.eqv d e)) H
def rNeP (K : PySem.W.Frag) : R2 := fun x y H Q => ∃ d e, Dp K H x d ∧ Dp K H y e ∧ d.plain = true ∧ e.plain = true ∧ d.depth ≤ 60 ∧ Q (.bl (!PyData.eqv d e)) H
def rGtP (K : PySem.W.Frag) : R2 := fun x y H Q => ∃ d e, Dp K H x d ∧ Dp K H y e ∧ PySem.W.alike d e = true ∧ d ≠ .none ∧ d.depth ≤ 60 ∧ Q (.bl (PySem.W.dataLt e d)) H
section
variable {X : Cx}
theorem op_eqP (hu : X.A.units + 64 < cLine) : OpR X (compareOp .Eq) (rEqP X.K) := by
  intro pins s σ H x y v u Q I rx ry h
  obtain ⟨d, e, hd, he, pd, pe, hz, q⟩ := h
  obtain ⟨as, r1⟩ := Dp.reads I d x v hd rx
  obtain ⟨bs, r2⟩ := Dp.reads I e y u he ry
  refine PySem.SeqAt.eq_plain r1 r2 pd pe ?_ ⟨.bl _, H, I, rfl, q⟩
  have := Nat.min_le_left d.depth e.depth
  omega
theorem op_neP (hu : X.A.units + 64 < cLine) : OpR X (compareOp .NotEq) (rNeP X.K) := by
  intro pins s σ H x y v u Q I rx ry h
  obtain ⟨d, e, hd, he, pd, pe, hz, q⟩ := h
  obtain ⟨as, r1⟩ := Dp.reads I d x v hd rx
  obtain ⟨bs, r2⟩ := Dp.reads I e y u he ry
  refine PySem.SeqAt.ne_plain r1 r2 pd pe ?_ ⟨.bl _, H, I, rfl, q⟩
  have := Nat.min_le_left d.depth e.depth
  omega
theorem op_gtP (hu : X.A.units + 64 < cLine) : OpR X (compareOp .Gt) (rGtP X.K) := by
  intro pins s σ H x y v u Q I rx ry h
  obtain ⟨d, e, hd, he, al, nn, hz, q⟩ := h
  obtain ⟨as, r1⟩ := Dp.reads I d x v hd rx
  obtain ⟨bs, r2⟩ := Dp.reads I e y u he ry
  refine PySem.W.gt_data r1 r2 al nn ?_ ⟨.bl _, H, I, rfl, q⟩
  have := Nat.min_le_left d.depth e.depth
  omega

/-! ### isinstance by data -/
def rIsiP (K : PySem.W.Frag) (T : String) (f : PyData → Bool) : List V → Hp → VK → Prop := fun xs H Q => ∃ x d, xs = [x, .ty T] ∧ Dp K H x d ∧ Q (.bl (f d)) H
theorem isi_of {T : String} {f : PyData → Bool} (rule : ∀ {prog : Program} {w : World} {A : Around} {E : Value → Shared → Prop} {s : Shared} {v : Value} {d : PyData} {as : List Addr} {Q : Value → Shared → Prop}, Reads s.heap v d as → (∀ tk, s.toks ≤ tk → Q (.bool (f d)) { s with toks := tk }) → wpAny (model prog w) A (call (.builtin "isinstance") [v, .type T]) Q E s) : CallR X (.builtin "isinstance") (rIsiP X.K T f) := by
  intro pins s σ H xs us Q I r h
  obtain ⟨x, d, rfl, hd, q⟩ := h
  obtain ⟨u1, u2, rfl, r1, r2⟩ := vals2 r
  cases (show u2 = Value.type T from r2)
  obtain ⟨as, rd⟩ := Dp.reads I d x u1 hd r1
  exact rule rd fun tk _ => ⟨.bl _, H, I.tok tk, rfl, q⟩
theorem call_isi_int : CallR X (.builtin "isinstance") (rIsiP X.K "int" PyData.isInt) := isi_of fun r h => PySem.W.isinstance_int_data r h
theorem call_isi_bool : CallR X (.builtin "isinstance") (rIsiP X.K "bool" PyData.isBool) := isi_of fun r h => PySem.W.isinstance_bool_data r h
theorem call_isi_list : CallR X (.builtin "isinstance") (rIsiP X.K "list" PyData.isList) := isi_of fun r h => PySem.W.isinstance_list_data r h
theorem call_isi_tuple : CallR X (.builtin "isinstance") (rIsiP X.K "tuple" PyData.isTuple) := isi_of fun r h => PySem.W.isinstance_tuple_data r h

/-! ### repr by data -/
def rRepr (K : PySem.W.Frag) : List V → Hp → VK → Prop := fun xs H Q => ∃ a d, xs = [.ref a] ∧ Dp K H (.ref a) d ∧ d.showable = true ∧ d.hasDict = false ∧ d.depth ≤ 60 ∧ d.shown.length ≤ sizeLine ∧ Q (.str d.shown) H
theorem cr_repr (hg : X.A.guards = some []) (hu : X.A.units + 64 < cLine) : CallR X (.builtin "repr") (rRepr X.K) := by
  intro pins s σ H xs us Q I r h
  obtain ⟨a, d, rfl, hd, hs, hn, hz, hl, q⟩ := h
  rw [Vals.ref1 r]
  obtain ⟨as, rd⟩ := Dp.reads I d (.ref a) (.ref a) hd rfl
  exact repr_of_reads' rd hs (PyData.noDict_hsm hn) hg (by omega) (fun _ _ e => e) (fun h' u tk hk => ⟨.str d.shown, H, I.kept (t' := tk) hk, ⟨u, rfl⟩, q⟩) hl
end

/-! ### the least of pairs -/
theorem alike_pD (p q : Int × Int) : PySem.W.alike (pD p) (pD q) = true := by
  show (true && (true && true)) = true
  rfl
theorem dataLt_pD (p q : Int × Int) : PySem.W.dataLt (pD p) (pD q) = decide (p.1 < q.1 ∨ (p.1 = q.1 ∧ p.2 < q.2)) := by
  refine (PySem.W.dataLt_tuple [.int p.1, .int p.2] [.int q.1, .int q.2]).trans ?_
  by_cases h1 : p.1 = q.1
  · rw [PySem.W.dataLt_all_yes (x := .int p.1) (y := .int q.1) rfl (by rw [h1]; exact beq_self_eq_true q.1)]
    by_cases h2 : p.2 = q.2
    · rw [PySem.W.dataLt_all_yes (x := .int p.2) (y := .int q.2) rfl (by rw [h2]; exact beq_self_eq_true q.2)]
      rw [lex_irrefl]
      symm
      exact decide_eq_false (by omega)
    · rw [PySem.W.dataLt_all_no (x := .int p.2) (y := .int q.2) rfl (beq_eq_false_iff_ne.mpr h2), PySem.W.dataLt_int]
      rw [Bool.eq_iff_iff, decide_eq_true_iff, decide_eq_true_iff]
      omega
  · rw [PySem.W.dataLt_all_no (x := .int p.1) (y := .int q.1) rfl (beq_eq_false_iff_ne.mpr h1), PySem.W.dataLt_int]
    rw [Bool.eq_iff_iff, decide_eq_true_iff, decide_eq_true_iff]
    omega
theorem minD_pD : ∀ (ps : List (Int × Int)) (p : Int × Int), ∃ m, PySem.W.minD (pD p) (ps.map pD) = pD m ∧ m ∈ p :: ps ∧ ∀ q ∈ p :: ps, m.1 < q.1 ∨ (m.1 = q.1 ∧ m.2 ≤ q.2)
  | [], p => ⟨p, rfl, List.mem_cons_self, fun q hq => by
      rw [List.mem_singleton.mp hq]
      omega⟩
  | r :: ps, p => by
    have e : PySem.W.minD (pD p) ((r :: ps).map pD) = PySem.W.minD (if PySem.W.dataLt (pD r) (pD p) then pD r else pD p) (ps.map pD) := rfl
    rw [e, dataLt_pD]
    by_cases c : r.1 < p.1 ∨ (r.1 = p.1 ∧ r.2 < p.2)
    · rw [decide_eq_true c, if_pos rfl]
      obtain ⟨m, e1, e2, e3⟩ := minD_pD ps r
      refine ⟨m, e1, List.mem_cons_of_mem _ e2, fun q hq => ?_⟩
      rcases List.mem_cons.mp hq with z | z
      · subst z
        have := e3 r List.mem_cons_self
        omega
      · exact e3 q z
    · rw [decide_eq_false c, if_neg (by decide)]
      obtain ⟨m, e1, e2, e3⟩ := minD_pD ps p
      refine ⟨m, e1, ?_, fun q hq => ?_⟩
      · rcases List.mem_cons.mp e2 with z | z
        · rw [z]
          exact List.mem_cons_self
        · exact List.mem_cons_of_mem _ (List.mem_cons_of_mem _ z)
      · rcases List.mem_cons.mp hq with z | z
        · rw [z]
          exact e3 p List.mem_cons_self
        · rcases List.mem_cons.mp z with z | z
          · subst z
            have := e3 p List.mem_cons_self
            omega
          · exact e3 q (List.mem_cons_of_mem _ z)

/-- at the addresses ts stand the pairs ps -/
abbrev Prs (K : PySem.W.Frag) (H : Hp) : List Addr → List (Int × Int) → Prop := Paired fun t p => SqT K H t [.int p.1, .int p.2]
theorem Prs.at_ {K : PySem.W.Frag} {H : Hp} : ∀ {ts : List Addr} {ps : List (Int × Int)} (h : Prs K H ts ps) {i : Nat} {t : Addr}, ts[i]? = some t → ∃ p, ps[i]? = some p ∧ SqT K H t [.int p.1, .int p.2]
  | _, _, .nil, i, t, e => by simp at e
  | _, _, .cons (b := p) h r, 0, t, e => by
    have e : _ = t := Option.some.inj e
    subst e
    exact ⟨p, rfl, h⟩
  | _, _, .cons h r, i + 1, t, e => Prs.at_ r (i := i) (by simpa using e)
theorem Prs.dp {K : PySem.W.Frag} {H : Hp} {t : Addr} {p : Int × Int} (h : SqT K H t [.int p.1, .int p.2]) : Dp K H (.ref t) (pD p) := .tup h (.cons (.int _) (.cons (.int _) .nil))
theorem Prs.dps {K : PySem.W.Frag} {H : Hp} : ∀ {ts : List Addr} {ps : List (Int × Int)}, Prs K H ts ps → DpAll K H (ts.map V.ref) (ps.map pD)
  | _, _, .nil => .nil
  | _, _, .cons h r => .cons (Prs.dp h) (Prs.dps r)
theorem Prs.length {K : PySem.W.Frag} {H : Hp} {ts : List Addr} {ps : List (Int × Int)} (h : Prs K H ts ps) : ts.length = ps.length := Paired.length h
section
variable {X : Cx}
def rMinP (K : PySem.W.Frag) : List V → Hp → VK → Prop := fun xs H Q => ∃ a ts ps, xs = [.ref a] ∧ SqL K H a (ts.map V.ref) ∧ Prs K H ts ps ∧ ps ≠ [] ∧
  ∀ t p, t ∈ ts → p ∈ ps → SqT K H t [.int p.1, .int p.2] → (∀ q ∈ ps, p.1 < q.1 ∨ (p.1 = q.1 ∧ p.2 ≤ q.2)) → Q (.ref t) H
theorem cr_minP (hc : X.calm = true) (hu : X.A.units + 64 < cLine) : CallR X (.builtin "min") (rMinP X.K) := by
  intro pins s σ H xs us Q I r h
  obtain ⟨a, ts, ps, rfl, hs, hp, hn, q⟩ := h
  rw [Vals.ref1 r]
  obtain ⟨its, rv, pl, hz⟩ := I.list hs
  obtain ⟨as, rs⟩ := Dp.readsAll I _ _ its hp.dps rv
  cases ps with
  | nil => exact absurd rfl hn
  | cons p ps =>
    have al : PySem.W.AlikeAll ((p :: ps).map pD) := by
      refine ⟨fun x hx y hy => ?_, fun x hx => ?_⟩
      · obtain ⟨x', _, rfl⟩ := List.mem_map.mp hx
        obtain ⟨y', _, rfl⟩ := List.mem_map.mp hy
        exact alike_pD _ _
      · obtain ⟨x', _, rfl⟩ := List.mem_map.mp hx
        exact fun e => nomatch e
    have dz : PyData.depthAll ((p :: ps).map pD) ≤ 1 := depthAll_map pD 1 depth_pD _
    refine PySem.W.min_list_data (x := pD p) (xs := ps.map pD) (as := as) (I.ok.hd hc) pl.isList (by simpa using rs) al (by have : PyData.depthAll (pD p :: ps.map pD) ≤ 1 := dz; omega) fun i v h' tk bs hv rv' hk => ?_
    have hi : its[i]? = some v := by simpa using hv
    have er := refs_at rv
    rw [er, List.getElem?_map] at hi
    obtain ⟨t, ht, ev⟩ := Option.map_eq_some_iff.mp hi
    subst ev
    obtain ⟨p', hp', hq⟩ := hp.at_ ht
    obtain ⟨m, e1, e2, e3⟩ := minD_pD ps p
    have J : Inv X pins σ H { s with heap := h', toks := tk } := I.kept hk
    obtain ⟨cs, rp⟩ := Dp.reads J (pD p') (.ref t) (.ref t) (Prs.dp hq) rfl
    have e4 : pD p' = pD m := by
      rw [← e1]
      exact PySem.SeqAt.plain_unique _ _ _ _ _ (plain_pD p') rp rv'
    have e5 : p' = m := by
      have h1 : [PyData.int p'.1, PyData.int p'.2] = [PyData.int m.1, PyData.int m.2] := PyData.tuple.inj e4
      have h2 := List.cons.inj h1
      have h3 := List.cons.inj h2.2
      exact Prod.ext (PyData.int.inj h2.1) (PyData.int.inj h3.1)
    subst e5
    exact ⟨.ref t, H, J, rfl, q t p' (List.mem_of_getElem? ht) (List.mem_of_getElem? hp') hq e3⟩
/-- list.remove of a pair -/
def rRemP (K : PySem.W.Frag) : V → List V → Hp → VK → Prop := fun x xs H Q => ∃ (l : Addr) (ts : List Addr) (ps : List (Int × Int)) (t : Addr) (p : Int × Int) (j : Nat), x = .ref l ∧ xs = [.ref t] ∧ H l = some (.lst (ts.map V.ref)) ∧ Prs K H ts ps ∧ SqT K H t [.int p.1, .int p.2] ∧
  ps[j]? = some p ∧ (∀ m, m < j → ps[m]? ≠ some p) ∧ Q .non (upd H l (.lst ((ts.eraseIdx j).map V.ref)))
theorem erase_mapR : ∀ (l : List Addr) (j : Nat), (l.map V.ref).eraseIdx j = (l.eraseIdx j).map V.ref
  | [], j => by simp
  | a :: r, 0 => by simp
  | a :: r, j + 1 => by
    have ih := erase_mapR r j
    simp [ih]
theorem mt_removeP (hu : X.A.units + 64 < cLine) : MtM X "list.remove" (rRemP X.K) := by
  intro pins s σ H x xs v us Q I rx rxs h
  obtain ⟨l, ts, ps, t, p, j, rfl, rfl, hH, hp, ht, hj, hno, q⟩ := h
  cases rx
  obtain ⟨u, rfl, ru⟩ := rxs.one
  cases ru
  obtain ⟨z, its, n, r, hl, e⟩ := I.lstM hH
  obtain ⟨as, rs⟩ := Dp.readsAll I _ _ its hp.dps r
  obtain ⟨cs, rp⟩ := Dp.reads I (pD p) (.ref t) (.ref t) (Prs.dp ht) rfl
  have hpl : PySem.SeqAt.dataPlace (ps.map pD) (pD p) = some j := by
    unfold PySem.SeqAt.dataPlace
    rw [List.findIdx?_eq_some_iff_getElem]
    obtain ⟨hjl, ej⟩ := List.getElem?_eq_some_iff.mp hj
    refine ⟨by rw [List.length_map]; exact hjl, ?_, fun m hm => ?_⟩
    · rw [List.getElem_map, ej]
      exact (eqv_pD p p).mpr rfl
    · rw [List.getElem_map]
      intro e2
      have e3 := (eqv_pD _ _).mp e2
      refine hno m hm ?_
      rw [← e3, List.getElem?_eq_getElem]
  have dz : PyData.depthAll (ps.map pD) ≤ 1 := depthAll_map pD 1 depth_pD _
  refine PySem.SeqAt.remove_list_data (vs := its.toArray) (xs := ps.map pD) (d := pD p) ⟨_, e, rfl, n, rfl⟩ (by simpa using rs) rp (plainAll_map pD plain_pD ps) (plain_pD p) ?_ hpl (by rw [List.size_toArray]; omega) ?_
  · have := Nat.min_le_left (PyData.depthAll (ps.map pD)) (pD p).depth
    omega
  · have rr := r.eraseIdx j
    rw [erase_mapR] at rr
    refine ⟨.non, _, I.lset (its' := its.eraseIdx j) (t' := s.toks) hH e ?_ rr ?_, rfl, q⟩
    · show its.toArray.eraseIdxIfInBounds j = (its.eraseIdx j).toArray
      rw [List.eraseIdxIfInBounds_toArray]
    · rw [List.length_map] at z ⊢
      have := List.length_eraseIdx_le ts j
      omega
end
end HX
set_option Elab.async false
set_option linter.all false
set_option maxRecDepth 100000
set_option maxHeartbeats 1000000
/-! Rules: match over tuples, plain tuples, dict of a tuple of pairs, sorted(set(list)). -/
namespace HX
open PySem PySem.Spec PyProof.Rows L2

/-! ### what a call keeps -/
/-- all that was tracked is as it was, but what stands at W -/
def Kept (W : List Addr) (H H' : Hp) : Prop := ∀ b o, H b = some o → b ∉ W → H' b = some o
theorem Kept.refl (W : List Addr) (H : Hp) : Kept W H H := fun _ _ h _ => h
theorem Kept.trans {W : List Addr} {H H1 H2 : Hp} (a : Kept W H H1) (b : Kept W H1 H2) : Kept W H H2 := fun c o h n => b c o (a c o h n) n
theorem Kept.mono {W W' : List Addr} {H H' : Hp} (a : Kept W H H') (s : ∀ b ∈ W, b ∈ W') : Kept W' H H' := fun c o h n => a c o h fun z => n (s c z)
theorem Kept.same {H H' : Hp} (a : Kept [] H H') : Same H H' := fun b o h => a b o h (fun z => nomatch z)
theorem Same.kept {W : List Addr} {H H' : Hp} (a : Same H H') : Kept W H H' := fun b o h _ => a b o h
theorem Kept.new {W : List Addr} {H : Hp} {p : Addr} {o : HO} (h : H p = none) : Kept W H (upd H p o) := fun b x e _ => by
  rw [upd_ne (ne_of_none e h)]
  exact e
theorem same_new {H : Hp} {p : Addr} {o : HO} (h : H p = none) : Same H (upd H p o) := fun b x e => by
  rw [upd_ne (ne_of_none e h)]
  exact e
theorem Kept.set {W : List Addr} {H : Hp} {p : Addr} {o : HO} (h : p ∈ W) : Kept W H (upd H p o) := fun b x e n => by
  have hb : b ≠ p := fun z => n (by rw [z]; exact h)
  rw [upd_ne hb]
  exact e
/-- tuples stay tuples -/
def TupK (H H' : Hp) : Prop := (∀ b xs, H b = some (.tup xs) → H' b = some (.tup xs)) ∧ ∀ b o xs, H b = some (.frz o (.tup xs)) → H' b = some (.frz o (.tup xs))
theorem TupK.refl (H : Hp) : TupK H H := ⟨fun _ _ h => h, fun _ _ _ h => h⟩
theorem TupK.trans {H H1 H2 : Hp} (a : TupK H H1) (b : TupK H1 H2) : TupK H H2 := ⟨fun c xs h => b.1 c xs (a.1 c xs h), fun c o xs h => b.2 c o xs (a.2 c o xs h)⟩
theorem TupK.of {H H' : Hp} (s : Same H H') : TupK H H' := ⟨fun b xs h => s b _ h, fun b o xs h => s b _ h⟩
/-- at the addresses W no tuple stands -/
def NoTup (W : List Addr) (H : Hp) : Prop := ∀ b ∈ W, (∀ xs, H b ≠ some (.tup xs)) ∧ ∀ o xs, H b ≠ some (.frz o (.tup xs))
theorem Kept.tup {W : List Addr} {H H' : Hp} (k : Kept W H H') (n : NoTup W H) : TupK H H' :=
  ⟨fun b xs h => k b _ h fun z => (n b z).1 xs h, fun b o xs h => k b _ h fun z => (n b z).2 o xs h⟩
theorem TupK.sqT {K : PySem.W.Frag} {H H' : Hp} {a : Addr} {xs : List V} (k : TupK H H') (h : SqT K H a xs) : SqT K H' a xs := by
  rcases h with (h | ⟨o, h⟩) | h
  · exact .inl (.inl (k.1 _ _ h))
  · exact .inl (.inr ⟨o, k.2 _ _ _ h⟩)
  · exact .inr h
theorem Same.sqT {K : PySem.W.Frag} {H H' : Hp} {a : Addr} {xs : List V} (e : Same H H') (h : SqT K H a xs) : SqT K H' a xs := (TupK.of e).sqT h
theorem Prs.kept {K : PySem.W.Frag} {H H' : Hp} (k : TupK H H') : ∀ {ts : List Addr} {ps : List (Int × Int)}, Prs K H ts ps → Prs K H' ts ps
  | _, _, .nil => .nil
  | _, _, .cons h r => .cons (k.sqT h) (Prs.kept k r)
theorem Kept.lst {W : List Addr} {K : PySem.W.Frag} {H H' : Hp} {a : Addr} {xs : List V} (k : Kept W H H') (n : a ∉ W) (h : SqL K H a xs) : SqL K H' a xs := by
  rcases h with (h | ⟨o, h⟩) | h
  · exact .inl (.inl (k _ _ h n))
  · exact .inl (.inr ⟨o, k _ _ h n⟩)
  · exact .inr h

/-! ### plain tuples: without a dict of their own -/
def PTup (K : PySem.W.Frag) (H : Hp) (a : Addr) (xs : List V) : Prop :=
  (∃ o, H a = some (.frz o (.tup xs)) ∧ o.cls = .type "tuple" ∧ o.dict = none) ∨
    ∃ (o : Obj) (its : Array Value) (n : Nat), K.lookup a = some o ∧ o.cls = .type "tuple" ∧ o.dict = none ∧ o.data = .seq its n ∧ its.size ≤ sizeLine ∧ Vals xs its.toList
theorem PTup.sq {K : PySem.W.Frag} {H : Hp} {a : Addr} {xs : List V} (h : PTup K H a xs) : SqT K H a xs := by
  rcases h with ⟨o, h, _⟩ | ⟨o, its, n, h1, h2, _, h3, h4, h5⟩
  · exact .inl (.inr ⟨o, h⟩)
  · exact .inr ⟨o, its, n, h1, h2, h3, h4, h5⟩
theorem PTup.kept {K : PySem.W.Frag} {H H' : Hp} {a : Addr} {xs : List V} (k : TupK H H') (h : PTup K H a xs) : PTup K H' a xs := by
  rcases h with ⟨o, h, r⟩ | h
  · exact .inl ⟨o, k.2 _ _ _ h, r⟩
  · exact .inr h
/-- a bag's tuple -/
def BagAt (K : PySem.W.Frag) (H : Hp) (v : V) (B : List (Int × Int)) : Prop := ∃ a ts, v = .ref a ∧ PTup K H a (ts.map V.ref) ∧ Prs K H ts B
theorem BagAt.kept {K : PySem.W.Frag} {H H' : Hp} {v : V} {B : List (Int × Int)} (k : TupK H H') (h : BagAt K H v B) : BagAt K H' v B := by
  obtain ⟨a, ts, e, h1, h2⟩ := h
  exact ⟨a, ts, e, h1.kept k, h2.kept k⟩
theorem BagAt.dp {K : PySem.W.Frag} {H : Hp} {v : V} {B : List (Int × Int)} (h : BagAt K H v B) : Dp K H v (bagD B) := by
  obtain ⟨a, ts, rfl, h1, h2⟩ := h
  exact .tup h1.sq h2.dps
theorem Inv.ptup {X : Cx} {pins : List (Addr × Obj)} {σ : L2.St} {H : Hp} {s : Shared} {a : Addr} {xs : List V} (I : Inv X pins σ H s) (h : PTup X.K H a xs) :
    ∃ (its : List Value) (o : Obj) (n : Nat), Vals xs its ∧ s.heap.get? a = some o ∧ o.cls = .type "tuple" ∧ o.dict = none ∧ o.data = .seq its.toArray n ∧ xs.length ≤ sizeLine := by
  rcases h with ⟨o, h, hc, hd⟩ | ⟨o, its, n, h1, h2, h3, h4, h5, h6⟩
  · obtain ⟨e, hz, its, rv, o', e', hc', n, hdat⟩ := I.hok a _ h
    rw [e] at e'
    cases e'
    exact ⟨its, o, n, rv, e, hc, hd, hdat, hz⟩
  · refine ⟨its.toList, o, n, h6, I.kIn a o h1, h2, h3, by simpa using h4, ?_⟩
    have e := h6.length
    have e2 : its.toList.length = its.size := Array.length_toList
    omega
section
variable {X : Cx}
/-- (): a plain tuple -/
def tTupF (t : TA) : TE := fun σ H Q => t σ H fun xs H1 => xs.length ≤ sizeLine ∧ ∀ p o, H1 p = none → o.cls = Value.type "tuple" → o.dict = none → Q (.ref p) (upd H1 p (.frz o (.tup xs)))
theorem pe_tupF {es : List Expr} {k : Nat} {pos : Pos} {t : TA} (h : PA X es t) : PE X (.Tuple es k pos) (tTupF t) := by
  refine ⟨fun pins s σ H Q I hq => ?_⟩
  refine Tuple_ (thn (h.run pos pins s σ H _ I hq) fun us s1 ⟨xs, H1, I1, r, z, q⟩ => ?_)
  refine wpAny_newObj_type ?_ (by show us.toArray.size ≤ sizeLine; rw [List.size_toArray, ← r.length]; exact z)
  have hf : H1 s1.heap.objs.size = none := I1.hok.fresh (Nat.le_refl _)
  have e : (s1.heap.push { cls := .type "tuple", data := .seq us.toArray }).get? s1.heap.objs.size = some { cls := .type "tuple", data := .seq us.toArray } := Heap.get?_push_size _ rfl
  refine ⟨.ref s1.heap.objs.size, upd H1 s1.heap.objs.size (.frz { cls := .type "tuple", data := .seq us.toArray } (.tup xs)), I1.laid (t' := s1.toks) (fun b u q => Heap.get?_push_of_some _ q) (Nat.le_refl _) ?_, rfl, q _ _ hf rfl rfl⟩
  exact ⟨e, z, us, r, ⟨_, e, rfl, _, rfl⟩⟩
end
end HX
set_option Elab.async false
set_option linter.all false
set_option maxRecDepth 100000
set_option maxHeartbeats 1000000
/-! Rules: tuple(list) as a plain tuple, dict(tuple of pairs), match over tuples. -/
namespace HX
open PySem PySem.Spec PyProof.Rows L2
section
variable {X : Cx}
/-- tuple(xs), xs a list -/
def rTupF (K : PySem.W.Frag) : List V → Hp → VK → Prop := fun xs H Q => ∃ p ys, xs = [.ref p] ∧ SqL K H p ys ∧ ∀ l o, H l = none → o.cls = Value.type "tuple" → o.dict = none → Q (.ref l) (upd H l (.frz o (.tup ys)))
theorem cr_tupF : CallR X (.type "tuple") (rTupF X.K) := by
  intro pins s σ H xs us Q I r h
  obtain ⟨p, ys, rfl, hq, q⟩ := h
  rw [Vals.ref1 r]
  obtain ⟨its, r', pl, hz⟩ := I.list hq
  have hlen := r'.length
  refine call_tuple_list pl.isList (fun h' kp => ?_) (by simp only [List.size_toArray]; omega)
  have I1 : L2.Inv X pins σ H { s with heap := h' } := I.kept (t' := s.toks) kp
  have e : (h'.push { cls := .type "tuple", data := .seq its.toArray }).get? h'.objs.size = some { cls := .type "tuple", data := .seq its.toArray } := Heap.get?_push_size _ rfl
  have I2 : L2.Inv X pins σ (upd H h'.objs.size (.frz { cls := .type "tuple", data := .seq its.toArray } (.tup ys))) { s with heap := h'.push { cls := .type "tuple", data := .seq its.toArray } } :=
    I1.laid (t' := s.toks) (fun b o q => Heap.get?_push_of_some _ q) (Nat.le_refl _) ⟨e, hz, its, r', ⟨_, e, rfl, _, rfl⟩⟩
  exact ⟨.ref h'.objs.size, _, I2, rfl, q _ _ (I1.hok.fresh (Nat.le_refl _)) rfl rfl⟩

/-- dict(t), t a plain tuple of pairs of ints -/
def kvI (B : List (Int × Int)) : List (Key × V) := B.map fun p => (Sum.inl p.1, V.int p.2)
def rDictT (K : PySem.W.Frag) : List V → Hp → VK → Prop := fun xs H Q => ∃ v B, xs = [v] ∧ BagAt K H v B ∧ ∀ p, H p = none → Q (.ref p) (upd H p (.dK (mergeK [] (kvI B))))
theorem Prs.kv {K : PySem.W.Frag} {H : Hp} : ∀ {ts : List Addr} {B : List (Int × Int)}, Prs K H ts B → Paired (fun p kv => SqT K H p [kV kv.1, kv.2]) ts (kvI B)
  | _, _, .nil => .nil
  | _, _, .cons h r => .cons h (Prs.kv r)
theorem call_dictT (hcalm : X.calm = true) : CallR X (.type "dict") (rDictT X.K) := by
  intro pins s σ H xs us Q I r q
  obtain ⟨v, B, rfl, ⟨a, ts, rfl, hq, hp⟩, q⟩ := q
  rw [Vals.ref1 r]
  obtain ⟨its, o, n, rv, ho, hc, hd, hdat, hz⟩ := HX.Inv.ptup I hq
  have ei := refs_at rv
  subst ei
  rw [List.length_map] at hz
  obtain ⟨prs, rel, hl, hpr⟩ := pairs_of I hp.kv
  have hn : (prs.map fun kv => (Value.none, kv.2)).length = prs.length := List.length_map _
  -- the pairs as the rule wants them
  let rawOf : Nat → Value × Value := fun j => match ts[j]? with
    | some b => match s.heap.get? b with
      | some ob => match ob.data with
        | .seq xs _ => (xs[0]?.getD .none, xs[1]?.getD .none)
        | _ => (.none, .none)
      | none => (.none, .none)
    | none => (.none, .none)
  let ps : List (Value × Value) := (List.range prs.length).map rawOf
  have at_ : ∀ (j : Nat) (q : Key × Value), prs[j]? = some q → ∃ (b : Addr) (u : Value), ts[j]? = some b ∧ IsTup s.heap b #[u, q.2] ∧ keyIs q.1 u = true ∧ rawOf j = (u, q.2) := fun j q e => by
    obtain ⟨b, u, e1, e2, e3⟩ := hpr j q e
    refine ⟨b, u, e1, e2, e3, ?_⟩
    obtain ⟨ob, h1, _, m, h2⟩ := e2
    show (match ts[j]? with | some b => _ | none => _) = _
    rw [e1]
    show (match s.heap.get? b with | some ob => _ | none => _) = _
    rw [h1]
    show (match ob.data with | .seq xs _ => _ | _ => _) = _
    rw [h2]
    rfl
  have psl : ps.length = prs.length := by
    show ((List.range prs.length).map rawOf).length = _
    rw [List.length_map, List.length_range]
  have psj : ∀ j k v, ps[j]? = some (k, v) → ∃ q, prs[j]? = some q ∧ rawOf j = (k, v) := fun j k v e => by
    have hj : j < prs.length := by
      rw [← psl]
      exact (List.getElem?_eq_some_iff.mp e).1
    refine ⟨_, List.getElem?_eq_getElem hj, ?_⟩
    have e' : ((List.range prs.length).map rawOf)[j]? = some (k, v) := e
    rw [List.getElem?_map, List.getElem?_range hj] at e'
    exact Option.some.inj e'
  refine PySem.call_dict_pairs (PySem.PairArg.tuple (prog := X.prog) (w := X.w) a ((ts.map Value.ref).toArray) (fun j => ts.getD j 0) ps) (knd := mixKind X.prog X.w) (kvs := prs) (I.ok.hd hcalm) ⟨⟨o, n, ho, hc, hd, hdat⟩, ?_, ?_⟩ ⟨psl.symm, ?_⟩ (by rw [psl, hl]; exact hz) fun h' tk hd' hk => ?_
  · rw [List.size_toArray, List.length_map, psl, hl]
  · intro j k v e
    obtain ⟨q, e1, e2⟩ := psj j k v e
    obtain ⟨b, u, e3, e4, e5, e6⟩ := at_ j q e1
    rw [e2] at e6
    cases e6
    have eg : ts.getD j 0 = b := by
      rw [List.getD_eq_getElem?_getD, e3]
      rfl
    refine ⟨?_, .inl ?_⟩
    · rw [List.getElem?_toArray, List.getElem?_map, e3]
      show some (Value.ref b) = some (Value.ref (ts.getD j 0))
      rw [eg]
    · show s.heap.IsTuple (ts.getD j 0) #[k, q.2]
      rw [eg]
      exact e4
  · intro i key v hrel
    have e : ps[i]? = some (key, v) := hrel
    obtain ⟨q, e1, e2⟩ := psj i key v e
    obtain ⟨b, u, e3, e4, e5, e6⟩ := at_ i q e1
    rw [e2] at e6
    cases e6
    exact ⟨q.1, e1, e5⟩
  · have hm : (s.heap.objs.size == sysModules) = false := beq_eq_false_iff_ne.mpr (Nat.ne_of_gt I.big)
    have hlen : (mergeK [] (kvI B)).length ≤ sizeLine := by
      refine Nat.le_trans (length_mergeK _ []) ?_
      rw [List.length_nil, Nat.zero_add, rel.length, hl]
      exact hz
    exact ⟨.ref s.heap.objs.size, upd H s.heap.objs.size (.dK (mergeK [] (kvI B))), I.laid (t' := tk) (fun b o e => hk b o (fun z => nomatch z) e) (Nat.le_refl _) (show ObjOk X.prog X.w _ _ _ (.dK (mergeK [] (kvI B))) from ⟨hlen, hm, merged [] prs, KV.merge rel .nil, hd'⟩), rfl, q _ (I.hok.fresh (Nat.le_refl _))⟩
end

/-! ### match -/
abbrev TCs := V → TS
structure PCs (X : Cx) (cases : List MatchCase) (t : TCs) : Prop where
  run : ∀ (first : Bool) (pins : List (Addr × Obj)) (s : Shared) (σ : L2.St) (H : Hp) (D : Ends) (v : V) (u : Value), L2.Inv X pins σ H s → RelV v u → t v D σ H → wpAny (model X.prog X.w) X.A (matchCases cases X.env u first) (SP X pins D) X.xe s
/-- a pattern that binds a name of the def -/
def Cap (X : Cx) (p : Pattern) (i : Nat) : Prop := ∃ x pos, p = .MatchAs none (some x) pos ∧ X.N[i]? = some x ∧ X.env.scope.names.lookup x = some .local
def setAll : L2.St → List Nat → List V → L2.St
  | σ, i :: is, x :: xs => setAll (σ.set i (some x)) is xs
  | σ, _, _ => σ
section
variable {X : Cx}
theorem cap_each {E : Value → Shared → Prop} : ∀ {ps : List Pattern} {is : List Nat} {us : List Value} {s : Shared} {Q : Option (List (Str × Value)) → Shared → Prop}, Paired (Cap X) ps is → us.length = is.length →
    (∀ ns : List Str, Paired (fun n i => X.N[i]? = some n ∧ X.env.scope.names.lookup n = some .local) ns is → Q (some (ns.zip us)) s) → wpAny (model X.prog X.w) X.A (matchEach ps X.env us) Q E s
  | _, _, us, s, Q, .nil, hl, h => by
    cases us with
    | nil => exact wpAny_matchEach_nil (h [] .nil)
    | cons _ _ => cases hl
  | _, _, us, s, Q, .cons hp hr, hl, h => by
    cases us with
    | nil => cases hl
    | cons u us =>
      obtain ⟨x, pos, rfl, h1, h2⟩ := hp
      refine wpAny_matchEach_cons (wpAny_matchPattern_Capture ?_)
      refine cap_each hr (by simpa using hl) fun ns hns => ?_
      exact h (x :: ns) (.cons ⟨h1, h2⟩ hns)
theorem cap_store {E : Value → Shared → Prop} (hN : X.N.Nodup) {pins : List (Addr × Obj)} {H : Hp} {Q : Unit → Shared → Prop} : ∀ {ns : List Str} {is : List Nat} {xs : List V} {us : List Value} {s : Shared} {σ : L2.St}, Paired (fun n i => X.N[i]? = some n ∧ X.env.scope.names.lookup n = some .local) ns is →
    Vals xs us → xs.length = is.length → L2.Inv X pins σ H s → (∀ s', L2.Inv X pins (setAll σ is xs) H s' → Q () s') → wpAny (model X.prog X.w) X.A (assignInOrder ((ns.zip us).map fun q => bindName X.env q.1) ((ns.zip us).map (·.2))) Q E s
  | _, _, xs, us, s, σ, .nil, r, hl, I, h => by
    cases r with
    | nil => exact assignInOrder_nil (h s I)
    | cons _ _ => cases hl
  | _, _, xs, us, s, σ, .cons (b := i) hp hr, r, hl, I, h => by
    cases r with
    | nil => cases hl
    | cons rx rr =>
      refine assignInOrder_cons (wpAny_bindName (store_ok I hN hp.1 (.inl hp.2) rx (fun s' I' => ?_) (.inr hp.2)))
      exact cap_store hN hr rr (by simpa using hl) I' h
def tCsNever : TCs := fun _ _ _ _ => False
theorem pcs_never {cs : List MatchCase} : PCs X cs tCsNever := ⟨fun _ _ _ _ _ _ _ _ _ _ h => h.elim⟩
/-- case [a, b, ..] if guard -/
def tCsSeq (K : PySem.W.Frag) (is : List Nat) (tg : TT) (tb : TS) (rest : TCs) : TCs := fun v D σ H => ∃ a xs, v = .ref a ∧ SqT K H a xs ∧
  if xs.length = is.length then tg (setAll σ is xs) H fun b H1 => if b = true then tb D (setAll σ is xs) H1 else rest v D (setAll σ is xs) H1 else rest v D σ H
def tCsSeq0 (K : PySem.W.Frag) (is : List Nat) (tb : TS) (rest : TCs) : TCs := fun v D σ H => ∃ a xs, v = .ref a ∧ SqT K H a xs ∧
  if xs.length = is.length then tb D (setAll σ is xs) H else rest v D σ H
theorem pcs_seq {ps : List Pattern} {is : List Nat} {g : Expr} {body : List Stmt} {rest : List MatchCase} {pos : Pos} {tg : TT} {tb : TS} {tr : TCs} (hc : X.calm = true) (hN : X.N.Nodup) (hp : Paired (Cap X) ps is) (hg : PT X g tg) (hb : PSs X body tb) (hr : PCs X rest tr)
    (hstar : ps.findIdx? (·.isStar) = none := by rfl) (hwild : (ps.all fun p => p.isWildcard || (p.isStar && p.names.isEmpty)) = false := by rfl) : PCs X (⟨.MatchSequence ps pos, some g, body⟩ :: rest) (tCsSeq X.K is tg tb tr) := by
  refine ⟨fun first pins s σ H D v u I r h => ?_⟩
  obtain ⟨a, xs, rfl, hq, h⟩ := h
  cases r
  obtain ⟨its, rv, ht, hz⟩ := I.tuple hq
  have hl := rv.length
  have h63 : (its.toArray.size : Int) < 2 ^ 63 := by
    rw [List.size_toArray]
    have := sizeLine_eq
    omega
  have hpl : ps.length = is.length := Paired.length hp
  refine wpAny_matchCases_cons ?_
  by_cases hn : xs.length = is.length
  · rw [if_pos hn] at h
    refine matchSeq_tuple_hit ht h63 (by rw [List.size_toArray]; omega) ?_ hstar hwild
    have es : ps.length = its.toArray.size := by rw [List.size_toArray]; omega
    rw [es]
    refine unpackItems_tuple (I.ok.hd hc) ht fun h' hx => ?_
    have I1 : L2.Inv X pins σ H { s with heap := h', toks := s.toks + 1 + 1 } := I.kept fun b o e => hx b o (Nat.ne_of_lt (Heap.lt_size e)) e
    refine cap_each hp (by show its.toArray.toList.length = _; simp; omega) fun ns hns => ?_
    refine cap_store hN hns (by simpa using rv) hn I1 fun s' I2 => ?_
    refine thn (hg.run pins s' _ H _ I2 h) fun b s3 ⟨H3, I3, q3⟩ => ?_
    cases b with
    | true => exact hb.run pins s3 _ H3 D I3 q3
    | false => exact hr.run false pins s3 _ H3 D (.ref a) (.ref a) I3 rfl q3
  · rw [if_neg hn] at h
    refine matchSeq_tuple_miss ht h63 (by rw [List.size_toArray]; omega) ?_ hstar hwild
    exact hr.run false pins _ σ H D (.ref a) (.ref a) (I.tok _) rfl h
theorem pcs_seq0 {ps : List Pattern} {is : List Nat} {body : List Stmt} {rest : List MatchCase} {pos : Pos} {tb : TS} {tr : TCs} (hc : X.calm = true) (hN : X.N.Nodup) (hp : Paired (Cap X) ps is) (hb : PSs X body tb) (hr : PCs X rest tr)
    (hstar : ps.findIdx? (·.isStar) = none := by rfl) (hwild : (ps.all fun p => p.isWildcard || (p.isStar && p.names.isEmpty)) = false := by rfl) : PCs X (⟨.MatchSequence ps pos, none, body⟩ :: rest) (tCsSeq0 X.K is tb tr) := by
  refine ⟨fun first pins s σ H D v u I r h => ?_⟩
  obtain ⟨a, xs, rfl, hq, h⟩ := h
  cases r
  obtain ⟨its, rv, ht, hz⟩ := I.tuple hq
  have hl := rv.length
  have h63 : (its.toArray.size : Int) < 2 ^ 63 := by
    rw [List.size_toArray]
    have := sizeLine_eq
    omega
  have hpl : ps.length = is.length := Paired.length hp
  refine wpAny_matchCases_cons ?_
  by_cases hn : xs.length = is.length
  · rw [if_pos hn] at h
    refine matchSeq_tuple_hit ht h63 (by rw [List.size_toArray]; omega) ?_ hstar hwild
    have es : ps.length = its.toArray.size := by rw [List.size_toArray]; omega
    rw [es]
    refine unpackItems_tuple (I.ok.hd hc) ht fun h' hx => ?_
    have I1 : L2.Inv X pins σ H { s with heap := h', toks := s.toks + 1 + 1 } := I.kept fun b o e => hx b o (Nat.ne_of_lt (Heap.lt_size e)) e
    refine cap_each hp (by show its.toArray.toList.length = _; simp; omega) fun ns hns => ?_
    refine cap_store hN hns (by simpa using rv) hn I1 fun s' I2 => ?_
    exact hb.run pins s' _ H D I2 h
  · rw [if_neg hn] at h
    refine matchSeq_tuple_miss ht h63 (by rw [List.size_toArray]; omega) ?_ hstar hwild
    exact hr.run false pins _ σ H D (.ref a) (.ref a) (I.tok _) rfl h
def tMatch (te : TE) (t : TCs) : TS := fun D σ H => te σ H fun v H1 => t v D σ H1
theorem ps_match {e : Expr} {cs : List MatchCase} {pos : Pos} {te : TE} {t : TCs} (he : PE X e te) (hc : PCs X cs t) : PS X (.Match e cs pos) (tMatch te t) := by
  refine ⟨fun pins s σ H D I h => ?_⟩
  exact wpAny_Match (thn (he.run pins s σ H _ I h) fun u s1 ⟨v, H1, I1, r1, q1⟩ => hc.run true pins s1 σ H1 D v u I1 r1 q1)
end
end HX
set_option Elab.async false
set_option linter.all false
set_option maxRecDepth 100000
set_option maxHeartbeats 2000000
/-! list(zip(a, b)) of two lists of one length. -/
namespace HX
open PySem PySem.Spec PyProof.Rows

theorem zip_no_len : typeLookup (.type "zip") "__len__" = pure none := am_miss_of_fast (by decide +kernel)
theorem zip_no_hint : typeLookup (.type "zip") "__length_hint__" = pure none := am_miss_of_fast (by decide +kernel)
section
variable {prog : Program} {w : World} {A : Around} {E : Value → Shared → Prop} {s : Shared}
theorem zip_hint {z : Addr} (hT : s.TypeIs (.ref z) "zip") {Q : Bool → Shared → Prop} (h : Q true s) : wpAny (model prog w) A (Builtin.List.listLengthHint (.ref z)) Q E s := by
  unfold Builtin.List.listLengthHint
  refine wpAny_bind (wpAny_specialOf hT zip_no_len ?_)
  dsimp only
  refine wpAny_ite_split (fun hab => absurd hab (by decide +kernel)) (fun _ => ?_)
  refine wpAny_ite_split (fun hab => absurd hab (by decide)) (fun _ => ?_)
  refine wpAny_bind (wpAny_specialOf hT zip_no_hint ?_)
  exact wpAny_pure h
end

/-- the iterator before item i -/
def ZSt (h : Heap) (z TI TO i1 i2 l1 l2 lo : Addr) (xs ys : Array Value) (i : Nat) : Prop :=
  IsPair h TI (.ref i1) (.ref i2) ∧ h.IsListIter i1 l1 i ∧ h.IsListIter i2 l2 i ∧ h.IsList l1 xs ∧ h.IsList l2 ys ∧
    ((IsZip h z TI TO .none ∧ ∃ a b, IsPair h TO a b) ∨ ∃ T f oT, PySem.IsZipHeld h z TI TO T f ∧ h.get? T = some oT ∧ lo ≤ T)
/-- the pairs made so far stand at the addresses as -/
structure ZG (xs ys : Array Value) (lo : Addr) (h : Heap) (as : List Addr) : Prop where
  above : ∀ a ∈ as, lo ≤ a
  rise : as.Pairwise (· < ·)
  pairs : ∀ (j : Nat) (a : Addr), as[j]? = some a → ∃ x y, xs[j]? = some x ∧ ys[j]? = some y ∧ IsPair h a x y
section
variable {prog : Program} {w : World} {A : Around} {s : Shared} {R : Result → Shared → Prop} {xs ys : Array Value}
theorem zil_loop {S z TI TO i1 i2 l1 l2 lo : Addr} (D : ZipApart z TI TO i1 i2 l1 l2) (hh : A.handled = none) (hxy : xs.size = ys.size) (hn : xs.size ≤ sizeLine)
    (hS : S < lo) (hz : z < lo) (hTI : TI < lo) (hTO : TO < lo) (hi1 : i1 < lo) (hi2 : i2 < lo) (hl1 : l1 < lo) (hl2 : l2 < lo) (nz : S ≠ z) (nTI : S ≠ TI) (nTO : S ≠ TO) (n1 : S ≠ i1) (n2 : S ≠ i2) (m1 : S ≠ l1) (m2 : S ≠ l2) (res : Value) {h₁ : Heap}
    (hR : ∀ h' tk acc c as, (∀ b o, b ≠ S → b ≠ z → b ≠ TO → b ≠ i1 → b ≠ i2 → h₁.get? b = some o → h'.get? b = some o) → h'.get? S = some { cls := .type "list", dict := none, data := .seq acc c, slots := #[] } → as.length = xs.size → ZG xs ys lo h' as →
      acc.toList = as.map Value.ref → R (.ok (.ret res)) { s with heap := h', toks := tk }) :
    ∀ (k i : Nat) (h : Heap) (tk c : Nat) (acc : Array Value) (as : List Addr), xs.size - i = k → i ≤ xs.size → ZSt h z TI TO i1 i2 l1 l2 lo xs ys i → (∀ b o, b ≠ S → b ≠ z → b ≠ TO → b ≠ i1 → b ≠ i2 → h₁.get? b = some o → h.get? b = some o) →
      h.get? S = some { cls := .type "list", dict := none, data := .seq acc c, slots := #[] } → acc.toList = as.map Value.ref → as.length = i → ZG xs ys lo h as → lo ≤ h.objs.size →
      codeAny (model prog w) A (.builtin "list.extend.loop" ⟨[.ref S, .ref z, res], []⟩) R { s with heap := h, toks := tk } := by
  have ne_lo : ∀ {a b : Addr}, b < lo → lo ≤ a → a ≠ b := fun h1 h2 e => by
    rw [e] at h2
    exact absurd (Nat.lt_of_lt_of_le h1 h2) (Nat.lt_irrefl _)
  intro k
  induction k with
  | zero =>
    intro i h tk c acc as hk hi hst hkeep hSh hacc hal hG hlo
    have hin : i = xs.size := by omega
    subst hin
    obtain ⟨p1, p2, p3, p4, p5, p6⟩ := hst
    have hend : xs[xs.size]? = none ∨ ys[xs.size]? = none := .inl (Array.getElem?_eq_none (Nat.le_refl _))
    refine codeAny_builtin PySem.F.entry_extend_loop ?_
    rw [Around.under_plainId PySem.F.plain_extend_loop _]
    show wpAny _ A.in1 (pyNext (.ref z) >>= _) _ _ _
    have fin : ∀ h' : Heap, (∀ b o, b ≠ z → b ≠ TO → b ≠ i1 → b ≠ i2 → h.get? b = some o → h'.get? b = some o) → R (.ok (.ret res)) { s with heap := h', toks := tk } := fun h' he =>
      hR h' tk acc c as (fun b o b1 b2 b3 b4 b5 e => he b o b2 b3 b4 b5 (hkeep b o b1 b2 b3 b4 b5 e)) (he S _ nz nTO n1 n2 hSh) hal ⟨hG.above, hG.rise, fun j a hj => by
        obtain ⟨x, y, e1, e2, e3⟩ := hG.pairs j a hj
        have ha := hG.above a (List.mem_of_getElem? hj)
        exact ⟨x, y, e1, e2, he a _ (ne_lo hz ha) (ne_lo hTO ha) (ne_lo hi1 ha) (ne_lo hi2 ha) e3⟩⟩ hacc
    rcases p6 with ⟨q1, a, b, q2⟩ | ⟨T, f, oT, q1, q2, q3⟩
    · refine wpAny_bind (wpAny_pyNext_zip_end (s := { s with heap := h, toks := tk }) (A := A.in1) hh D q1 p1 q2 p2 p3 p4 p5 hend fun h' he => ?_)
      exact wpAny_pure (fin h' he)
    · refine wpAny_bind (PySem.wpAny_pyNext_zip_end_held (s := { s with heap := h, toks := tk }) (A := A.in1) hh D q1 q2 p1 p2 p3 p4 p5 hend fun h' he => ?_)
      exact wpAny_pure (fin h' fun b o b1 _ b3 b4 e => he b o b1 b3 b4 e)
  | succ k ih =>
    intro i h tk c acc as hk hi hst hkeep hSh hacc hal hG hlo
    have hlt : i < xs.size := by omega
    have hlt2 : i < ys.size := by omega
    have hsz : acc.size = i := by rw [← Array.length_toList, hacc, List.length_map, hal]
    have hx : xs[i]? = some xs[i] := Array.getElem?_eq_getElem hlt
    have hy : ys[i]? = some ys[i] := Array.getElem?_eq_getElem hlt2
    obtain ⟨p1, p2, p3, p4, p5, p6⟩ := hst
    refine codeAny_builtin PySem.F.entry_extend_loop ?_
    rw [Around.under_plainId PySem.F.plain_extend_loop _]
    show wpAny _ A.in1 (pyNext (.ref z) >>= _) _ _ _
    -- one item has come
    have turn : ∀ h' : Heap, h'.IsListIter i1 l1 (i + 1) → h'.IsListIter i2 l2 (i + 1) → IsPair h' h.objs.size xs[i] ys[i] → h'.objs.size = h.objs.size + 1 → (∃ T f oT, PySem.IsZipHeld h' z TI TO T f ∧ h'.get? T = some oT ∧ lo ≤ T) →
        (∀ b o, b ≠ z → b ≠ TO → b ≠ i1 → b ≠ i2 → h.get? b = some o → h'.get? b = some o) →
        wpAny (model prog w) A.in1 (updateSeq S (·.push (Value.ref h.objs.size)) >>= fun _ => again (.builtin "list.extend.loop" ⟨[.ref S, .ref z, res], []⟩))
          (fun fin s' => match fin with | .done f => R (.ok f) s' | .again c' => c'.quiet = true ∧ codeAny (model prog w) A c' R s') (fun e s' => R (.error e) s') { s with heap := h', toks := tk } := by
      intro h' a3 a4 a5 a6 ⟨T, f, oT, a1, a2, aT⟩ a7
      have hS' := a7 S _ nz nTO n1 n2 hSh
      have up : ∀ b o, b ≠ S → h'.get? b = some o → (h'.update S (Obj.mapSeq (·.push (Value.ref h.objs.size)))).get? b = some o := fun b o hb e => (Heap.get?_update_other _ _ (Ne.symm hb)).trans e
      have nS : h.objs.size ≠ S := ne_lo hS hlo
      refine wpAny_bind ?_
      refine wpAny_updateSeq hS' rfl (wpAny_pure ⟨plainId_quiet PySem.F.plain_extend_loop _, ih (i + 1) _ tk _ (acc.push (Value.ref h.objs.size)) (as ++ [h.objs.size]) (by omega) hlt
        ⟨up _ _ nTI.symm (a7 TI _ D.TIz D.TITO D.TIi1 D.TIi2 p1), a3.at fun o e => up _ o n1.symm e, a4.at fun o e => up _ o n2.symm e, p4.at fun o e => up _ o m1.symm (a7 l1 o D.l1z D.l1TO D.l1i1 D.l1i2 e), p5.at fun o e => up _ o m2.symm (a7 l2 o D.l2z D.l2TO D.l2i1 D.l2i2 e),
          .inr ⟨T, f, oT, up _ _ nz.symm a1, up _ _ (ne_lo hS aT) a2, aT⟩⟩
        (fun b o b1 b2 b3 b4 b5 e => up b o b1 (a7 b o b2 b3 b4 b5 (hkeep b o b1 b2 b3 b4 b5 e))) (Heap.get?_update_self _ hS' rfl) (by rw [Array.toList_push, hacc, List.map_append]; rfl) (by rw [List.length_append, hal]; rfl) ⟨?_, ?_, ?_⟩ ?_⟩) (by rw [hsz]; omega) (by show (acc.push (Value.ref h.objs.size)).size ≤ sizeLine + 1; rw [Array.size_push, hsz]; omega)
      · intro a ha
        rcases List.mem_append.mp ha with ha | ha
        · exact hG.above a ha
        · rw [List.mem_singleton.mp ha]
          exact hlo
      · refine List.pairwise_append.mpr ⟨hG.rise, List.pairwise_singleton _ _, fun a ha b hb => ?_⟩
        rw [List.mem_singleton.mp hb]
        obtain ⟨j, hj⟩ := List.mem_iff_getElem?.mp ha
        obtain ⟨_, _, _, _, e3⟩ := hG.pairs j a hj
        exact Heap.lt_size e3
      · intro j b hj
        rcases Nat.lt_trichotomy j as.length with q | q | q
        · rw [List.getElem?_append_left q] at hj
          obtain ⟨x, y, e1, e2, e3⟩ := hG.pairs j b hj
          have hb := hG.above b (List.mem_of_getElem? hj)
          exact ⟨x, y, e1, e2, up b _ (ne_lo hS hb) (a7 b _ (ne_lo hz hb) (ne_lo hTO hb) (ne_lo hi1 hb) (ne_lo hi2 hb) e3)⟩
        · subst q
          have hb : h.objs.size = b := by simpa using hj
          subst hb
          exact ⟨_, _, by rw [hal]; exact hx, by rw [hal]; exact hy, up _ _ nS a5⟩
        · have hnone : (as ++ [h.objs.size])[j]? = none := List.getElem?_eq_none (by rw [List.length_append, List.length_singleton]; omega)
          rw [hnone] at hj
          cases hj
      · have e : (h'.update S (Obj.mapSeq (·.push (Value.ref h.objs.size)))).get? h.objs.size = _ := up _ _ nS a5
        exact Nat.le_trans hlo (Nat.le_of_lt (Heap.lt_size e))
    rcases p6 with ⟨q1, a, b, q2⟩ | ⟨T, f, oT, q1, q2, q3⟩
    · refine wpAny_bind (wpAny_pyNext_zip_item (s := { s with heap := h, toks := tk }) D q1 p1 q2 p2 p3 p4 p5 hx hy fun h' a1 a2 a3 a4 a5 a6 a7 => ?_)
      exact turn h' a3 a4 a5 a6 ⟨h.objs.size, false, _, a1, a5, hlo⟩ a7
    · refine wpAny_bind (PySem.wpAny_pyNext_zip_item_held (s := { s with heap := h, toks := tk }) D q1 q2 p1 p2 p3 p4 p5 hx hy fun h' a1 a3 a4 a5 a6 a7 => ?_)
      exact turn h' a3 a4 a5 a6 ⟨T, true, oT, a1, a7 T _ (ne_lo hz q3) (ne_lo hi1 q3) (ne_lo hi2 q3) q2, q3⟩ fun b o b1 _ b3 b4 e => a7 b o b1 b3 b4 e
end

section
variable {prog : Program} {w : World} {A : Around} {E : Value → Shared → Prop} {s : Shared} {xs ys : Array Value}
/-- list(z), z a zip of two lists of one length, just made -/
theorem zil_call {z TI TO i1 i2 l1 l2 : Addr} {Q : Value → Shared → Prop} (D : ZipApart z TI TO i1 i2 l1 l2) (hh : A.handled = none) (hxy : xs.size = ys.size) (hn : xs.size ≤ sizeLine)
    (hz : IsZip s.heap z TI TO .none) (hTI : IsPair s.heap TI (.ref i1) (.ref i2)) (hTO : IsPair s.heap TO .none .none) (h1 : s.heap.IsListIter i1 l1 0) (h2 : s.heap.IsListIter i2 l2 0) (hl1 : s.heap.IsList l1 xs) (hl2 : s.heap.IsList l2 ys)
    (hQ : ∀ h' tk acc c as, (∀ b o, b ≠ z → b ≠ TO → b ≠ i1 → b ≠ i2 → s.heap.get? b = some o → h'.get? b = some o) → h'.get? s.heap.objs.size = some { cls := .type "list", dict := none, data := .seq acc c, slots := #[] } → as.length = xs.size → ZG xs ys (s.heap.objs.size + 1) h' as →
      acc.toList = as.map Value.ref → Q (.ref s.heap.objs.size) { s with heap := h', toks := tk }) :
    wpAny (model prog w) A (call (.type "list") [.ref z]) Q E s := by
  refine callType_codes (Q₁ := fun obj s₁ => obj = .ref s.heap.objs.size ∧ s₁ = { s with heap := s.heap.push { cls := .type "list", data := .seq #[] } }) PySem.F.called_list (PySem.F.typeCall_list_1 _) PySem.F.entry_list_init
    (code_list_new _ ⟨rfl, rfl⟩) fun obj s₁ h₁ => ?_
  obtain ⟨rfl, rfl⟩ := h₁
  have hS : (s.heap.push { cls := .type "list", data := .seq #[] }).get? s.heap.objs.size = some { cls := .type "list", data := .seq #[] } := Heap.get?_push_size _ rfl
  have lz : z < s.heap.objs.size := Heap.lt_size hz
  have lTI : TI < s.heap.objs.size := Heap.lt_size hTI
  have lTO : TO < s.heap.objs.size := Heap.lt_size hTO
  have li1 : i1 < s.heap.objs.size := by obtain ⟨_, e, _⟩ := h1; exact Heap.lt_size e
  have li2 : i2 < s.heap.objs.size := by obtain ⟨_, e, _⟩ := h2; exact Heap.lt_size e
  have ll1 : l1 < s.heap.objs.size := by obtain ⟨_, e, _⟩ := hl1; exact Heap.lt_size e
  have ll2 : l2 < s.heap.objs.size := by obtain ⟨_, e, _⟩ := hl2; exact Heap.lt_size e
  refine ⟨⟨_, hS, rfl⟩, PySem.F.args_list_init_2 _ _, ?_⟩
  show wpAny _ _ (do let old ← Builtin.List.listItems (.ref s.heap.objs.size); Builtin.List.listUpdate (.ref s.heap.objs.size) (fun _ => #[]); letGo old.toList.reverse; Builtin.List.listExtendWith (.ref s.heap.objs.size) (.ref z) .none) _ _ _
  refine wpAny_bind ?_
  unfold Builtin.List.listItems
  refine wpAny_bind (wpAny_seqItems hS rfl (wpAny_pure ?_))
  show wpAny _ _ (updateSeq s.heap.objs.size (fun _ => #[]) >>= fun _ => letGo (#[] : Array Value).toList.reverse >>= fun _ => Builtin.List.listExtendWith (.ref s.heap.objs.size) (.ref z) .none) _ _ _
  refine wpAny_bind (wpAny_updateSeq hS rfl ?_)
  have hS2 := Heap.get?_update_self (Obj.mapSeq (fun _ => (#[] : Array Value))) hS rfl
  have oth : ∀ b o, b ≠ s.heap.objs.size → s.heap.get? b = some o → ((s.heap.push { cls := .type "list", data := .seq #[] }).update s.heap.objs.size (Obj.mapSeq (fun _ => (#[] : Array Value)))).get? b = some o :=
    fun b o hb e => (Heap.get?_update_other _ _ (Ne.symm hb)).trans (Heap.get?_push_of_some _ e)
  refine wpAny_bind (wpAny_letGo ?_)
  have key : ∀ (h : Heap) (c tk : Nat), (∀ b o, b ≠ s.heap.objs.size → s.heap.get? b = some o → h.get? b = some o) → h.get? s.heap.objs.size = some { cls := .type "list", data := .seq #[] c } →
      codeAny (model prog w) A.in1 (.builtin "list.extend.loop" ⟨[.ref s.heap.objs.size, .ref z, .none], []⟩) (wants (fun r s₂ => r = .none ∧ Q (.ref s.heap.objs.size) s₂) E) { s with heap := h, toks := tk } := by
    intro h c tk hk hSh
    have nS : ∀ {b : Addr}, b < s.heap.objs.size → b ≠ s.heap.objs.size := fun hb => Nat.ne_of_lt hb
    refine zil_loop (A := A.in1) (s := s) (lo := s.heap.objs.size + 1) (h₁ := s.heap) D hh hxy hn (Nat.lt_succ_self _) (Nat.lt_succ_of_lt lz) (Nat.lt_succ_of_lt lTI) (Nat.lt_succ_of_lt lTO) (Nat.lt_succ_of_lt li1) (Nat.lt_succ_of_lt li2) (Nat.lt_succ_of_lt ll1) (Nat.lt_succ_of_lt ll2)
      (nS lz).symm (nS lTI).symm (nS lTO).symm (nS li1).symm (nS li2).symm (nS ll1).symm (nS ll2).symm .none (fun h' tk' acc c' as hk' hS' hl hG hacc => ?_) xs.size 0 h tk c #[] [] (Nat.sub_zero _) (Nat.zero_le _)
      ⟨hk _ _ (nS lTI) hTI, h1.at fun o e => hk _ o (nS li1) e, h2.at fun o e => hk _ o (nS li2) e, hl1.at fun o e => hk _ o (nS ll1) e, hl2.at fun o e => hk _ o (nS ll2) e, .inl ⟨hk _ _ (nS lz) hz, _, _, hk _ _ (nS lTO) hTO⟩⟩
      (fun b o b1 _ _ _ _ e => hk b o b1 e) hSh rfl rfl ⟨fun _ ha => (nomatch ha), List.Pairwise.nil, fun j a hj => (by simp at hj)⟩ (Heap.lt_size hSh)
    exact ⟨rfl, hQ h' tk' acc c' as (fun b o b2 b3 b4 b5 e => hk' b o (nS (Heap.lt_size e)) b2 b3 b4 b5 e) hS' hl hG hacc⟩
  unfold Builtin.List.listExtendWith
  have hz2 := oth z _ (Nat.ne_of_lt lz) hz
  refine wpAny_bind (wpAny_typeOf (T := "zip") ⟨_, hz2, rfl⟩ ?_)
  have e1 : Builtin.List.listSameRef (.ref s.heap.objs.size) (.ref z) = false := by simp [Builtin.List.listSameRef, Nat.ne_of_gt lz]
  have e2 : (Value.type "zip" == Value.type "list") = false := by decide
  have e3 : (Value.type "zip" == Value.type "tuple") = false := by decide
  simp only [e1, e2, e3, Bool.or_false, Bool.false_eq_true, if_false]
  refine wpAny_bind (wpAny_pyIter_zip hz2 ?_)
  refine wpAny_bind (wpAny_holding (zip_hint ⟨_, hz2, rfl⟩ ?_))
  refine wpAny_ite_split (fun _ => ?_) (fun _ => wpAny_pure ⟨plainId_quiet PySem.F.plain_extend_loop _, key _ _ _ oth hS2⟩)
  refine wpAny_bind (wpAny_rule ?_)
  refine wpAny_bind ?_
  show wpAny _ _ (updateSeq s.heap.objs.size (·.push .none) >>= fun _ => updateSeq s.heap.objs.size (·.pop)) _ _ _
  refine wpAny_bind (wpAny_updateSeq hS2 rfl ?_)
  have hS3 := Heap.get?_update_self (Obj.mapSeq (·.push Value.none)) hS2 rfl
  refine wpAny_updateSeq (hz := by seq_fits) hS3 rfl ?_
  have hS4 := Heap.get?_update_self (Obj.mapSeq (·.pop)) hS3 rfl
  refine wpAny_pure ⟨plainId_quiet PySem.F.plain_extend_loop _, key _ _ _ (fun b o hb e => ?_) hS4⟩
  exact (Heap.get?_update_other _ _ (Ne.symm hb)).trans ((Heap.get?_update_other _ _ (Ne.symm hb)).trans (oth b o hb e))
end

/-! ### the rule -/
open L2
/-- pairs tracked at their addresses -/
def putP : Hp → List Addr → List (V × V) → Hp
  | H, a :: as, p :: ps => putP (upd H a (.tup [p.1, p.2])) as ps
  | H, _, _ => H
theorem putP_off {b : Addr} : ∀ (as : List Addr) (ps : List (V × V)) (H : Hp), b ∉ as → putP H as ps b = H b
  | [], _, _, _ => rfl
  | _ :: _, [], _, _ => rfl
  | a :: as, p :: ps, H, h => by
    show putP (upd H a (.tup [p.1, p.2])) as ps b = H b
    rw [putP_off as ps _ (fun z => h (List.mem_cons_of_mem _ z)), upd_ne (fun z => h (by rw [z]; exact List.mem_cons_self))]
theorem putP_at : ∀ (as : List Addr) (ps : List (V × V)) (H : Hp), as.length = ps.length → as.Nodup → Paired (fun (t : Addr) (p : V × V) => putP H as ps t = some (.tup [p.1, p.2])) as ps
  | [], [], _, _, _ => .nil
  | [], _ :: _, _, h, _ => by cases h
  | _ :: _, [], _, h, _ => by cases h
  | a :: as, p :: ps, H, h, hn => by
    have hn' := List.nodup_cons.mp hn
    refine .cons ?_ (putP_at as ps (upd H a (.tup [p.1, p.2])) (Nat.succ.inj h) hn'.2)
    show putP (upd H a (.tup [p.1, p.2])) as ps a = some (.tup [p.1, p.2])
    rw [putP_off as ps _ hn'.1, upd_same]
def tListZip (K : PySem.W.Frag) (ta : TA) : TE := fun σ H Q => ta σ H fun vs H1 => ∃ (a b : Addr) (xs ys : List V), vs = [.ref a, .ref b] ∧ SqL K H1 a xs ∧ SqL K H1 b ys ∧ xs.length = ys.length ∧
  ∀ (H' : Hp) (p : Addr) (ts : List Addr), Same H1 H' → H1 p = none → H' p = some (.lst (ts.map V.ref)) → Paired (fun (t : Addr) (q : V × V) => H' t = some (.tup [q.1, q.2])) ts (xs.zip ys) → Q (.ref p) H'
section
variable {X : Cx}
theorem zip_laid {pins : List (Addr × Obj)} {σ : L2.St} {H : Hp} {s : Shared} {h' : Heap} {tk : Nat} {xs ys : List V} {us vs : List Value} {acc : Array Value} {c : Nat} {as : List Addr} {S lo : Addr} (I : L2.Inv X pins σ H s) (hz : xs.length ≤ sizeLine) (hxy : xs.length = ys.length) (rx : Vals xs us) (ry : Vals ys vs)
    (hk : ∀ b o, s.heap.get? b = some o → h'.get? b = some o) (hS : h'.get? S = some { cls := .type "list", dict := none, data := .seq acc c, slots := #[] }) (hSl : s.heap.objs.size ≤ S) (hSlo : S < lo) (hl : as.length = us.length) (hG : ZG us.toArray vs.toArray lo h' as) (hacc : acc.toList = as.map Value.ref) :
    ∃ H' : Hp, Same H H' ∧ H S = none ∧ H' S = some (.lst (as.map V.ref)) ∧ Paired (fun (t : Addr) (q : V × V) => H' t = some (.tup [q.1, q.2])) as (xs.zip ys) ∧ L2.Inv X pins σ H' { s with heap := h', toks := tk } := by
  have lx := rx.length
  have ly := ry.length
  have lz : (xs.zip ys).length = xs.length := by
    rw [List.length_zip, ← hxy, Nat.min_self]
  have big : ∀ t ∈ as, s.heap.objs.size ≤ t := fun t ht => Nat.le_trans hSl (Nat.le_of_lt (Nat.lt_of_lt_of_le hSlo (hG.above t ht)))
  have hSn : S ∉ as := fun z => Nat.lt_irrefl _ (Nat.lt_of_lt_of_le hSlo (hG.above _ z))
  have nd : as.Nodup := List.Pairwise.imp (fun {a b} (h : a < b) => Nat.ne_of_lt h) hG.rise
  have new : ∀ t ∈ as, H t = none := fun t ht => I.hok.fresh (big t ht)
  have newS : H S = none := I.hok.fresh hSl
  have atP := putP_at as (xs.zip ys) (upd H S (.lst (as.map V.ref))) (by omega) nd
  have off : ∀ b, b ∉ as → b ≠ S → putP (upd H S (.lst (as.map V.ref))) as (xs.zip ys) b = H b := fun b h1 h2 => by rw [putP_off as _ _ h1, upd_ne h2]
  have low : ∀ b o, s.heap.get? b = some o → b ∉ as ∧ b ≠ S := fun b o e => ⟨fun z => absurd (Heap.lt_size e) (Nat.not_lt.mpr (big b z)), fun z => absurd (Heap.lt_size e) (Nat.not_lt.mpr (by rw [z]; exact hSl))⟩
  have kp : ∀ b u, H b = some u → (putP (upd H S (.lst (as.map V.ref))) as (xs.zip ys)) b = some u := fun b u e => by
    rw [off b (fun z => by rw [new b z] at e; cases e) (fun z => by rw [z, newS] at e; cases e)]
    exact e
  have eS : putP (upd H S (.lst (as.map V.ref))) as (xs.zip ys) S = some (.lst (as.map V.ref)) := by rw [putP_off as _ _ hSn, upd_same]
  refine ⟨putP (upd H S (.lst (as.map V.ref))) as (xs.zip ys), kp, newS, eS, atP, ?_⟩
  refine I.call' (ch := []) rfl ⟨fun b o q _ _ _ => hk b o q, fun b o q _ _ _ => ⟨o.slots, hk b o q⟩, fun b o q n _ => ?_, fun b o q _ => ⟨o, hk b o q⟩, fun b xs q => kp b _ q, fun b o u q => kp b _ q, fun b ps q => ⟨#[], by rw [kp b _ q]; simp⟩⟩ (fun b u q => ?_) I.bare fun b z => by simp at z
  · obtain ⟨z1, z2⟩ := low b o q
    rw [off b z1 z2]
    exact n
  · by_cases hb : b ∈ as
    · obtain ⟨j, pk, e1, e2, e3⟩ := LiI.paired_ix atP hb
      rw [e3] at q
      cases q
      obtain ⟨x, y, f1, f2, f3⟩ := hG.pairs j b e1
      obtain ⟨g1, g2⟩ := List.getElem?_zip_eq_some.mp e2
      obtain ⟨u1, k1, r1⟩ := rx.get g1
      obtain ⟨u2, k2, r2⟩ := ry.get g2
      rw [List.getElem?_toArray, k1] at f1
      rw [List.getElem?_toArray, k2] at f2
      cases f1
      cases f2
      exact ⟨by show 2 ≤ sizeLine; decide, [x, y], .cons r1 (.cons r2 .nil), ⟨_, f3, rfl, _, rfl⟩⟩
    · by_cases hb2 : b = S
      · rw [hb2] at q ⊢
        rw [eS] at q
        cases q
        refine ⟨by rw [List.length_map]; omega, acc.toList, c, by rw [hacc]; exact LiI.vals_refs as, ?_⟩
        rw [Array.toArray_toList]
        exact hS
      · rw [off b hb hb2] at q
        exact (I.hok b u q).stay (fun d v _ y => hk d v y) (fun d y => kp d _ y) fun d xs y => kp d _ y
theorem pe_listZip {e e2 : Expr} {ta : TA} {p p2 pos pos2 : Pos} (hc : X.calm = true) (hg : Gl X "list") (hm : X.mg "list" = none) (hv : bootBuiltins "list" = some (.type "list")) (hg2 : Gl X "zip") (hm2 : X.mg "zip" = none) (ha : PA X [e, e2] ta)
    (hs : starEach [.Call (.Name "zip" p2) [e, e2] [] pos2] X.env = (false, eval (.Call (.Name "zip" p2) [e, e2] [] pos2) X.env) :: starEach [] X.env := by rfl)
    (hs2 : starEach [e, e2] X.env = (false, eval e X.env) :: starEach [e2] X.env := by rfl) (hpl : (backTo pos2 (starEach [e2] X.env)).any (·.1) = false := by rfl) :
    PE X (.Call (.Name "list" p) [.Call (.Name "zip" p2) [e, e2] [] pos2] [] pos) (tListZip X.K ta) := by
  refine ⟨fun pins s σ H Q I hq => ?_⟩
  refine wpAny_Call_Name_kw (ld_blt I hg hm hv ?_)
  refine PyProof.Rows.callWith_type1 ?_ hs rfl
  rw [hs]
  show wpAny _ _ (spliced ((false, eval (.Call (.Name "zip" p2) [e, e2] [] pos2) X.env) :: backTo pos (starEach [] X.env))) _ _ s
  refine Calls.spliced_cons ?_
  refine Call_ (ld_blt I hg2 hm2 PyProof.Rows.boot_zip (PyProof.Rows.callWith_type1 (thn (ha.run pos2 pins s σ H _ I hq) fun us s1 ⟨ws, H1, I1, r1, q1⟩ => ?_) hs2 hpl))
  obtain ⟨a, b, xs, ys, ex, hqx, hqy, hxy, q⟩ := q1
  subst ex
  cases r1 with
  | cons r rr =>
    cases rr with
    | cons r' rr =>
      cases rr
      cases r
      cases r'
      obtain ⟨its, rv, p1, zx⟩ := I1.list hqx
      obtain ⟨its2, rv2, p3, _⟩ := I1.list hqy
      have la : a < s1.heap.objs.size := p1.lt
      have lb : b < s1.heap.objs.size := p3.lt
      have lx := rv.length
      have ly := rv2.length
      refine call_zip_2 p1.isList p3.isList fun h' hz hTI hTO h1 h2 hsz hk => ?_
      refine Calls.spliced_nil ?_
      refine zil_call (s := { s1 with heap := h' }) (PySem.W.ktu_apart s1.heap.objs.size a b la lb) (I1.ok.hd hc) (by rw [List.size_toArray, List.size_toArray]; omega) (by rw [List.size_toArray]; omega) hz hTI hTO h1 h2 (p1.isList.at fun o e => hk _ o e) (p3.isList.at fun o e => hk _ o e) fun h2' tk acc c as hk2 hS hl hG hacc => ?_
      have old : ∀ b o, s1.heap.get? b = some o → h2'.get? b = some o := fun b o e => by
        have hb := Heap.lt_size e
        have nn : ∀ k, b ≠ s1.heap.objs.size + k := fun k => Nat.ne_of_lt (Nat.lt_of_lt_of_le hb (Nat.le_add_right _ k))
        exact hk2 b o (by first | exact nn 0 | exact nn 1 | exact nn 2 | exact nn 3 | exact nn 4) (by first | exact nn 0 | exact nn 1 | exact nn 2 | exact nn 3 | exact nn 4) (by first | exact nn 0 | exact nn 1 | exact nn 2 | exact nn 3 | exact nn 4) (by first | exact nn 0 | exact nn 1 | exact nn 2 | exact nn 3 | exact nn 4 | exact Nat.ne_of_lt (hsz ▸ Nat.lt_succ_of_lt hb)) (hk b o e)
      have hS' : s1.heap.objs.size ≤ h'.objs.size := by omega
      obtain ⟨H', k1, k2, k3, k4, J⟩ := zip_laid (tk := tk) I1 zx hxy rv rv2 old hS hS' (Nat.lt_succ_self _) (by rw [hl, List.size_toArray]) hG hacc
      exact ⟨.ref h'.objs.size, H', J, rfl, q H' _ as k1 k2 k3 k4⟩
end
end HX
set_option Elab.async false
set_option linter.all false
set_option maxRecDepth 100000
set_option maxHeartbeats 1000000
/-! The program's defs: what is known of each, and how a call of one is read. -/
namespace HX
open PySem PySem.Spec PyProof.Rows L2
def top (i : Nat) : Stmt := PySem.Challenge.pw_heapeffects_k57_whole_derivations.main.body.getD i (.Pass ⟨0, 0, 0, 0⟩)

/-- a def that may be called by its name: its promise -/
structure Cal (P : Program) (w : World) (K : PySem.W.Frag) (mg : Str → Option Value) (base : Heap) (k : Nat) (x : Str) (sp : Sp) : Prop where
  ex : ∃ (f : Addr) (fd : FuncData) (ps : List Str), FnOk P w K mg base CX0 k f fd ps sp ∧ mg x = some (.ref f) ∧ PySem.W.keepIn K (.ref f) = true ∧ Binds K fd ps []
/-- a def of the text as it stands behind the top -/
structure Def (K : PySem.W.Frag) (mg : Str → Option Value) (x : Str) (st : Stmt) (ps : List Str) : Prop where
  ex : ∃ (f : Addr) (fd : FuncData), Fun K x x st f fd ∧ mg x = some (.ref f) ∧ Binds K fd ps []
section
variable {P : Program} {w : World} {K : PySem.W.Frag} {mg : Str → Option Value} {base : Heap}
theorem Def.cal {x : Str} {st : Stmt} {N ps : List Str} {k : Nat} {sp : Sp} (D : Def K mg x st ps) (S : FnScope N ps (defScope st)) (len : ∀ vs H Q E, sp vs H Q E → vs.length = ps.length)
    (hbody : ∀ (f : Addr) (cdv : Value) (A : Around) (outer : List Env) (s : Shared) (H : Hp) (vs : List V) (Q : VK) (E : XK), Room k (A.deeper (envOfC x (defScope st) s.heap.objs.size f cdv)) → sp vs H Q E →
      ∃ t, PSs (cxOf CX0 P w K mg base N x (defScope st) f cdv A outer s H E).nox (defBody st) t ∧ t { nx := fun _ H' => Q .non H', rt := Q } (start N vs) H) : Cal P w K mg base (k + 1) x sp := by
  obtain ⟨f, fd, F, hm, hb⟩ := D.ex
  exact ⟨f, fd, ps, F.ok S len fun cdv A outer s H vs Q E hr h => hbody f cdv A outer s H vs Q E hr h, hm, F.kp, hb⟩
theorem Cal.mono {j k : Nat} {x : Str} {sp : Sp} (C : Cal P w K mg base j x sp) (h : j ≤ k) : Cal P w K mg base k x sp := by
  obtain ⟨f, fd, ps, F, r⟩ := C.ex
  exact ⟨f, fd, ps, F.mono h, r⟩
end
def tCl (sp : Sp) (t : TA) : TE := fun σ H Q => t σ H fun vs H1 => sp vs H1 Q E0
section
variable {X : Cx}
theorem pe_cl {k j : Nat} {x : Str} {sp : Sp} {e : Expr} {es : List Expr} {t : TA} {p pos : Pos} (C : Cal X.prog X.w X.K X.mg X.base k x sp) (hr : Room j X.A) (ha : PA X (e :: es) t) (hg : Gl X x := by rfl) (hkj : k ≤ j := by decide) (hdb : (x == ("__debug__" : Str)) = false := by decide)
    (he : starEach (e :: es) X.env = (false, eval e X.env) :: starEach es X.env := by rfl) (hpl : (backTo pos (starEach es X.env)).any (·.1) = false := by rfl) : PE X (.Call (.Name x p) (e :: es) [] pos) (tCl sp t) := by
  obtain ⟨f, fd, ps, F, hm, hk, hb⟩ := C.ex
  refine ⟨fun pins s σ H Q I h => ?_⟩
  refine (pe_call (X := X) (dvs := []) (E := E0) F (hr.mono hkj) hg hm hk hb .nil pass0 ha hdb he hpl).run pins s σ H Q I ?_
  have e0 : (fun (vs : List V) (H1 : Hp) => sp (vs ++ []) H1 Q E0) = fun vs H1 => sp vs H1 Q E0 := by
    funext vs H1
    rw [List.append_nil]
  show t σ H (fun vs H1 => sp (vs ++ []) H1 Q E0)
  rw [e0]
  exact h
end

/-! ### abstract heaps -/
theorem Same.over {H0 H : Hp} {D : Addr} {o : HO} (s : Same H0 H) (n : H0 D = none) : Same H0 (upd H D o) := fun b x e => by
  rw [upd_ne (ne_of_none e n)]
  exact s b x e
theorem paired_snoc {α β : Type} {F : α → β → Prop} : ∀ {l : List α} {m : List β} {a : α} {b : β}, Paired F l m → F a b → Paired F (l ++ [a]) (m ++ [b])
  | _, _, _, _, .nil, h => .cons h .nil
  | _, _, _, _, .cons x r, h => .cons x (paired_snoc r h)
theorem kvI_at {B : List (Int × Int)} {i : Nat} {a b : V} (hi : i < B.length) (h1 : ((kvI B)[i]?.map fun kv => kV kv.1) = some a) (h2 : ((kvI B)[i]?.map Prod.snd) = some b) : a = .int B[i].1 ∧ b = .int B[i].2 := by
  have eB : (kvI B)[i]? = some (Sum.inl B[i].1, V.int B[i].2) := by
    unfold kvI
    rw [List.getElem?_map, List.getElem?_eq_getElem hi]
    rfl
  rw [eB] at h1 h2
  exact ⟨(Option.some.inj h1).symm, (Option.some.inj h2).symm⟩
theorem prs_of {K : PySem.W.Frag} {H : Hp} {ts : List Addr} {B : List (Int × Int)} (h : Paired (fun t (p : Int × Int) => H t = some (.tup [.int p.1, .int p.2])) ts B) : Prs K H ts B := Paired.mapP h fun _ _ e => SqT.of e
theorem lt1000 {n : Nat} (h : n < 1000) : n < sizeLine := Nat.lt_trans h (by rw [sizeLine_eq]; decide)
theorem le1000 {n : Nat} (h : n ≤ 1000) : n ≤ sizeLine := Nat.le_of_lt (Nat.lt_of_le_of_lt h (by rw [sizeLine_eq]; decide))

/-! ### the module's names -/
def NoN (mg : Str → Option Value) (x : Str) : Prop := mg x = none
structure Txt (K : PySem.W.Frag) (mg : Str → Option Value) : Prop where
  len : mg "len" = none
  min : mg "min" = none
  sorted : mg "sorted" = none
  tuple : mg "tuple" = none
  list : mg "list" = none
  dict : mg "dict" = none
  set : mg "set" = none
  any : mg "any" = none
  isi : mg "isinstance" = none
  range : mg "range" = none
  enum : mg "enumerate" = none
  zip : mg "zip" = none
  repr : mg "repr" = none
  int : mg "int" = none
  bool : mg "bool" = none
  ms : ∃ t, mg "MAX_STEPS" = some (.int 40 t)
  co : ∃ t, mg "CONSUMED" = some (.int 0 t)
  re : ∃ t, mg "REMOVING" = some (.int 1 t)
  su : ∃ t, mg "SURVIVING" = some (.int 2 t)
  rm : ∃ r, mg "REMOVAL" = some (.ref r) ∧ ∀ H, PTup K H r [.str "remove", .int 1]
  idn : ∃ r a b, mg "IDENTITY" = some (.ref r) ∧ ∀ H, PTup K H r [.ref a, .int 0, .ref b] ∧ PTup K H a [] ∧ PTup K H b []

/-! ### steps, sequences, effects at their addresses -/
def stepV : Stp → List V
  | .ins v => [.str "insert", .int v, .int 1]
  | .rem => [.str "remove", .int 1]
abbrev Stps (K : PySem.W.Frag) (H : Hp) : List Addr → List Stp → Prop := Paired fun t s => SqT K H t (stepV s)
theorem stp_dp {K : PySem.W.Frag} {H : Hp} {t : Addr} {s : Stp} (h : SqT K H t (stepV s)) : Dp K H (.ref t) (stepD s) := by
  cases s with
  | ins v => exact .tup h (.cons (.str _) (.cons (.int _) (.cons (.int _) .nil)))
  | rem => exact .tup h (.cons (.str _) (.cons (.int _) .nil))
theorem Stps.kept {K : PySem.W.Frag} {H H' : Hp} (k : TupK H H') : ∀ {ts : List Addr} {ss : List Stp}, Stps K H ts ss → Stps K H' ts ss
  | _, _, .nil => .nil
  | _, _, .cons h r => .cons (k.sqT h) (Stps.kept k r)
theorem Stps.dps {K : PySem.W.Frag} {H : Hp} : ∀ {ts : List Addr} {ss : List Stp}, Stps K H ts ss → DpAll K H (ts.map V.ref) (ss.map stepD)
  | _, _, .nil => .nil
  | _, _, .cons h r => .cons (stp_dp h) (Stps.dps r)
/-- the list at a is the sequence ss -/
def SeqAt (K : PySem.W.Frag) (H : Hp) (a : Addr) (ss : List Stp) : Prop := ∃ ts, SqL K H a (ts.map V.ref) ∧ Stps K H ts ss
theorem SeqAt.dp {K : PySem.W.Frag} {H : Hp} {a : Addr} {ss : List Stp} (h : SeqAt K H a ss) : Dp K H (.ref a) (seqD ss) := by
  obtain ⟨ts, h1, h2⟩ := h
  exact .lst h1 h2.dps
/-- the tuple at v is an effect -/
def EffAt (K : PySem.W.Frag) (H : Hp) (v : V) (e : List (Int × Int) × Nat × List (Int × Int)) : Prop :=
  ∃ a x y, v = .ref a ∧ SqT K H a [x, .int e.2.1, y] ∧ BagAt K H x e.1 ∧ BagAt K H y e.2.2
theorem EffAt.dp {K : PySem.W.Frag} {H : Hp} {v : V} {e : List (Int × Int) × Nat × List (Int × Int)} (h : EffAt K H v e) : Dp K H v (effD e) := by
  obtain ⟨a, x, y, rfl, h1, h2, h3⟩ := h
  exact .tup h1 (.cons h2.dp (.cons (.int _) (.cons h3.dp .nil)))
theorem EffAt.kept {K : PySem.W.Frag} {H H' : Hp} {v : V} {e : List (Int × Int) × Nat × List (Int × Int)} (k : TupK H H') (h : EffAt K H v e) : EffAt K H' v e := by
  obtain ⟨a, x, y, rfl, h1, h2, h3⟩ := h
  exact ⟨a, x, y, rfl, k.sqT h1, h2.kept k, h3.kept k⟩
end HX
set_option Elab.async false
set_option linter.all false
set_option maxRecDepth 100000
set_option maxHeartbeats 1000000
/-! is_integer, is_count, from_counts. -/
namespace HX
open PySem PySem.Spec PyProof.Rows L2
section
variable {P : Program} {w : World} {K : PySem.W.Frag} {mg : Str → Option Value} {base : Heap}
def spInt : Sp := fun vs H Q _ => ∃ i, vs = [.int i] ∧ Q (.bl true) H
theorem sc4 : FnScope ["value"] ["value"] (defScope (top 4)) := ⟨rfl, rfl, rfl, by decide +kernel, rfl, by decide +kernel, by decide +kernel⟩
theorem cal_int (D : Def K mg "is_integer" (top 4) ["value"]) (T : Txt K mg) : Cal P w K mg base 1 "is_integer" spInt := by
  refine D.cal sc4 (fun vs H Q E h => ?_) (fun f cdv A outer s H vs Q E hr h => ?_)
  · obtain ⟨i, rfl, _⟩ := h
    rfl
  · obtain ⟨i, rfl, k⟩ := h
    refine ⟨_, pss_one (ps_ret (pe_and (pe_callB call_isi_int rfl T.isi boot_isinstance (pa_cons (pv 0) (pa_cons (pe_bltn (v := .ty "int") rfl T.int boot_int rfl) pa_nil)))
      (pe_one (pe_not (pe_callB call_isi_bool rfl T.isi boot_isinstance (pa_cons (pv 0) (pa_cons (pe_bltn (v := .ty "bool") rfl T.bool boot_bool rfl) pa_nil))))))), ?_⟩
    exact ⟨_, rfl, _, _, rfl, .int i, _, rfl, iteT ⟨_, rfl, _, _, rfl, .int i, _, rfl, k⟩⟩
def spCount : Sp := fun vs H Q _ => ∃ i : Int, vs = [.int i] ∧ Q (.bl (decide (0 ≤ i))) H
theorem sc5 : FnScope ["value"] ["value"] (defScope (top 5)) := ⟨rfl, rfl, rfl, by decide +kernel, rfl, by decide +kernel, by decide +kernel⟩
theorem cal_count (D : Def K mg "is_count" (top 5) ["value"]) (T : Txt K mg) (C : Cal P w K mg base 1 "is_integer" spInt) : Cal P w K mg base 2 "is_count" spCount := by
  refine D.cal sc5 (fun vs H Q E h => ?_) (fun f cdv A outer s H vs Q E hr h => ?_)
  · obtain ⟨i, rfl, _⟩ := h
    rfl
  · obtain ⟨i, rfl, k⟩ := h
    refine ⟨_, pss_one (ps_ret (pe_and (pe_cl C hr (pa_cons (pv 0) pa_nil)) (pe_one (pe_cmpR op_ge (pv 0) pe_int (nomark _))))), ?_⟩
    exact ⟨_, rfl, i, rfl, _, rfl, iteT ⟨_, rfl, i, 0, rfl, rfl, k⟩⟩

/-! ### from_counts -/
/-- keys of the pairs at v -/
def pairOf (H : Hp) : V → Int × Int
  | .ref t => match H t with
    | some (.tup [.int a, .int b]) => (a, b)
    | _ => (0, 0)
  | _ => (0, 0)
theorem prs_back {K : PySem.W.Frag} {H : Hp} : ∀ {ys : List V}, (∀ x ∈ ys, ∃ t, x = V.ref t ∧ H t = some (.tup [.int (pairOf H x).1, .int (pairOf H x).2])) → ∃ ts, ys = ts.map V.ref ∧ Prs K H ts (ys.map (pairOf H))
  | [], _ => ⟨[], rfl, .nil⟩
  | y :: ys, h => by
    obtain ⟨t, e, ht⟩ := h y List.mem_cons_self
    obtain ⟨ts, e2, h2⟩ := prs_back (K := K) (ys := ys) fun x hx => h x (List.mem_cons_of_mem _ hx)
    refine ⟨t :: ts, by rw [e, e2]; rfl, ?_⟩
    exact .cons (SqT.of ht) h2
theorem paired_at {α β : Type} {F : α → β → Prop} : ∀ {l : List α} {m : List β} {i : Nat} {a : α}, Paired F l m → l[i]? = some a → ∃ b, m[i]? = some b ∧ F a b
  | _, _, i, a, .nil, e => by simp at e
  | _, _, 0, a, .cons (b := p) h r, e => by
    have e : _ = a := Option.some.inj e
    subst e
    exact ⟨p, rfl, h⟩
  | _, _, i + 1, a, .cons h r, e => paired_at (i := i) r (by simpa using e)
theorem paired_mem {α β : Type} {F G : α → β → Prop} : ∀ {l : List α} {m : List β}, Paired F l m → (∀ a b, a ∈ l → F a b → G a b) → Paired G l m
  | _, _, .nil, _ => .nil
  | _, _, .cons h r, f => .cons (f _ _ List.mem_cons_self h) (paired_mem r fun a b m => f a b (List.mem_cons_of_mem _ m))
theorem pairOf_ref {H : Hp} {t : Addr} {p : Int × Int} (h : H t = some (.tup [.int p.1, .int p.2])) : pairOf H (.ref t) = p := by
  show (match H t with
    | some (.tup [.int a, .int b]) => (a, b)
    | _ => (0, 0)) = p
  rw [h]
theorem pairOf_map {H : Hp} : ∀ {ts : List Addr} {B : List (Int × Int)}, Paired (fun t (p : Int × Int) => H t = some (.tup [.int p.1, .int p.2])) ts B → (ts.map V.ref).map (pairOf H) = B
  | _, _, .nil => rfl
  | _, _, .cons (a := t) (b := p) h r => by
    have e4 : pairOf H (.ref t) = p := pairOf_ref h
    show pairOf H (.ref t) :: _ = _
    rw [e4, pairOf_map r]
/-- a list of positive counts, ascending by its numbers -/
def spFrom (K : PySem.W.Frag) : Sp := fun vs H Q _ => ∃ (d : Addr) (B : List (Int × Int)), vs = [.ref d] ∧ H d = some (.dK (kvI B)) ∧ (B.map (·.1)).Nodup ∧ B.length ≤ 1000 ∧
  ∀ v H' C, Same H H' → BagAt K H' v C → C.Perm (B.filter fun p => decide (0 < p.2)) → C.Pairwise (fun a b => a.1 < b.1) → Q v H'
theorem sc6 : FnScope ["counts", "number", "count"] ["counts"] (defScope (top 6)) := ⟨rfl, rfl, rfl, by decide +kernel, rfl, by decide +kernel, by decide +kernel⟩
theorem asc_of {α : Type} {f : α → Int × Int} : ∀ {ys : List α}, ys.Pairwise (fun x y => SrtO.lexB (f y) (f x) = false) → ((ys.map f).map (·.1)).Nodup → (ys.map f).Pairwise fun a b => a.1 < b.1
  | [], _, _ => List.Pairwise.nil
  | y :: ys, h, n => by
    have h1 := List.pairwise_cons.mp h
    have n1 := List.nodup_cons.mp (show ((f y).1 :: (ys.map f).map (·.1)).Nodup from n)
    refine List.pairwise_cons.mpr ⟨fun q hq => ?_, asc_of h1.2 n1.2⟩
    obtain ⟨x, hx, rfl⟩ := List.mem_map.mp hq
    have a := SrtO.lexB_no.mp (h1.1 x hx)
    have b : (f y).1 ≠ (f x).1 := fun e => n1.1 (List.mem_map.mpr ⟨f x, List.mem_map.mpr ⟨x, hx, rfl⟩, e.symm⟩)
    omega
theorem cal_from (D : Def K mg "from_counts" (top 6) ["counts"]) (T : Txt K mg) : Cal P w K mg base 1 "from_counts" (spFrom K) := by
  refine D.cal sc6 (fun vs H Q E h => ?_) (fun f cdv A outer s H vs Q E hr h => ?_)
  · obtain ⟨d, B, rfl, _⟩ := h
    rfl
  · obtain ⟨d, B, rfl, hd, hn, hz, k⟩ := h
    refine ⟨_, pss_one (ps_ret (pe_callTy cr_tupF rfl T.tuple boot_tuple (pa_cons (pe_callB cr_sortedPO rfl T.sorted boot_sorted (pa_cons
      (pe_lock (pe_lc (own := [("number", 1), ("count", 2)]) (g := gTup K 2 (gCons (gName 1) (gCons (gName 2) gNil))) rfl sc6.nd (pi_items (pv 0)) (blkOk_by (N := ["counts", "number", "count"]) (sc := defScope (top 6)) (by decide +kernel))
        (fun _ _ _ _ _ => pg_tup rfl (pgs_cons (pg_name (i := 1) sc6.nd rfl (.inl rfl)) (pgs_cons (pg_name (i := 2) sc6.nd rfl (.inl rfl)) pgs_nil)))
        (fun _ _ _ _ _ => pts_one (pt_cmpR op_gt (pv 2) pe_int (nomark _)))
        (fun _ _ _ _ _ => pe_tup (pa_cons (pv 1) (pa_cons (pv 2) pa_nil))))) pa_nil)) pa_nil))), ?_⟩
    refine ⟨d, _, hd, trivial, fun od => ?_⟩
    refine ⟨_, rfl, d, od, kvI B, rfl, upd_same, fun D hD => ?_⟩
    have s1 : ∀ b o, H b = some o → b ≠ d → (upd H d (.frz od (.dK (kvI B)))) b = some o := fun b o e n => by
      rw [upd_ne n]
      exact e
    have inj : Same (upd H d (.frz od (.dK (kvI B)))) (upd (upd H d (.frz od (.dK (kvI B)))) D (.lst [])) := same_new hD
    refine lc_it walk_items (fun i H' => Same (upd H d (.frz od (.dK (kvI B)))) H' ∧ ∃ ts, H' D = some (.lst (ts.map V.ref)) ∧ ts.length ≤ i ∧ Paired (fun t (p : Int × Int) => H' t = some (.tup [.int p.1, .int p.2])) ts ((B.take i).filter fun p => decide (0 < p.2)))
      ⟨inj, [], upd_same, Nat.le_refl _, .nil⟩ (fun i H' _ h => h.1 _ _ upd_same) ?_ ?_
    · rintro i x H2 H3 hi ⟨sm, ts, hDl, hl, hp⟩ ⟨t, a, b, rfl, ht, rfl, h1, h2⟩
      have hi' : i < B.length := by
        have : (kvI B).length = B.length := List.length_map _
        omega
      obtain ⟨rfl, rfl⟩ := kvI_at hi' h1 h2
      have nDt : D ≠ t := ne_of_none hDl ht
      have etk : (B.take (i + 1)).filter (fun p => decide (0 < p.2)) = (B.take i).filter (fun p => decide (0 < p.2)) ++ (if 0 < B[i].2 then [B[i]] else []) := by
        rw [List.take_succ, List.getElem?_eq_getElem hi', List.filter_append]
        congr 1
        by_cases c : 0 < B[i].2
        · rw [if_pos c]
          show [B[i]].filter _ = _
          rw [List.filter_cons_of_pos (by exact decide_eq_true c)]
          rfl
        · rw [if_neg c]
          show [B[i]].filter _ = _
          rw [List.filter_cons_of_neg (by rw [decide_eq_false c]; decide)]
          rfl
      have keep : ∀ {H4 : Hp}, Same H2 H4 → Paired (fun t (p : Int × Int) => H4 t = some (.tup [.int p.1, .int p.2])) ts ((B.take i).filter fun p => decide (0 < p.2)) := fun e => Paired.mapP hp fun a b h => e _ _ h
      refine ⟨t, [.int B[i].1, .int B[i].2], rfl, .of upd_same, rfl, _, _, rfl, _, _, rfl, rfl, rfl, ?_⟩
      refine ⟨_, rfl, _, _, rfl, rfl, _, rfl, ?_⟩
      by_cases c : 0 < B[i].2
      · rw [decide_eq_true c]
        refine iteT ⟨_, rfl, _, rfl, (by show 2 ≤ sizeLine; decide), fun q hq => ⟨ts.map V.ref, ?_, ?_, ?_⟩⟩
        · have nDq : D ≠ q := ne_of_none (o := .lst (ts.map V.ref)) (by rw [upd_ne nDt]; exact hDl) hq
          rw [upd_ne nDq, upd_ne nDt]
          exact hDl
        · rw [List.length_map]
          exact lt1000 (by omega)
        · have q0 : H2 q = none := Same.free (same_new ht) hq
          have nqt : q ≠ t := fun z => by
            rw [z, upd_same] at hq
            cases hq
          have nDq : D ≠ q := ne_of_none hDl q0
          have sa : Same H2 (upd (upd H2 t (.tup [.int B[i].1, .int B[i].2])) q (.tup [.int B[i].1, .int B[i].2])) := (same_new ht).trans (same_new hq)
          refine ⟨Same.over (sm.trans sa) hD, ts ++ [q], by rw [upd_same, List.map_append]; rfl, by rw [List.length_append]; exact Nat.succ_le_succ hl, ?_⟩
          rw [etk, if_pos c]
          refine paired_snoc (Paired.mapP hp fun a b h => ?_) ?_
          · rw [upd_ne (ne_of h hDl (fun z => nomatch z))]
            exact sa _ _ h
          · rw [upd_ne nDq.symm, upd_same]
      · rw [decide_eq_false c]
        refine iteF ⟨sm.trans (same_new ht), ts, by rw [upd_ne nDt]; exact hDl, Nat.le_succ_of_le hl, ?_⟩
        rw [etk, if_neg c, List.append_nil]
        exact keep (same_new ht)
    · rintro H2 ⟨sm, ts, hDl, hl, hp⟩
      have hkl : (kvI B).length = B.length := List.length_map _
      rw [hkl, List.take_length] at hp
      refine ⟨sm _ _ upd_same, ?_⟩
      have hdl : ∀ t ∈ ts, t ≠ d := fun t ht z => by
        obtain ⟨j, e⟩ := List.getElem?_of_mem ht
        obtain ⟨p, _, e3⟩ := paired_at hp e
        rw [z, sm _ _ upd_same] at e3
        cases e3
      have nDd : D ≠ d := fun z => by
        rw [z, upd_same] at hD
        cases hD
      have sH : Same H (upd H2 d (.dK (kvI B))) := fun b o e => by
        by_cases z : b = d
        · rw [z] at e ⊢
          rw [hd] at e
          cases e
          exact upd_same
        · rw [upd_ne z]
          exact sm _ _ (s1 b o e z)
      have hp2 : Paired (fun t (p : Int × Int) => upd H2 d (.dK (kvI B)) t = some (.tup [.int p.1, .int p.2])) ts (B.filter fun p => decide (0 < p.2)) := paired_mem hp fun t p ht h => by
        rw [upd_ne (hdl t ht)]
        exact h
      have hk : (ts.map V.ref).map (pairOf (upd H2 d (.dK (kvI B)))) = B.filter fun p => decide (0 < p.2) := pairOf_map hp2
      refine ⟨D, ts.map V.ref, pairOf (upd H2 d (.dK (kvI B))), rfl, .of (by rw [upd_ne nDd]; exact hDl), fun x hx => ?_, fun ys p srt stb hnp => ?_⟩
      · obtain ⟨t, ht, rfl⟩ := List.mem_map.mp hx
        obtain ⟨j, e⟩ := List.getElem?_of_mem ht
        obtain ⟨q, _, e3⟩ := paired_at hp2 e
        refine ⟨t, rfl, ?_⟩
        have e4 : pairOf (upd H2 d (.dK (kvI B))) (.ref t) = q := pairOf_ref e3
        rw [e4]
        exact e3
      · have pm := stb.perm.map (pairOf (upd H2 d (.dK (kvI B))))
        rw [hk] at pm
        obtain ⟨us, eu, pr⟩ := prs_back (K := K) (H := upd H2 d (.dK (kvI B))) (ys := ys) fun x hx => by
          have hx' := stb.perm.mem_iff.mp hx
          obtain ⟨t, ht, rfl⟩ := List.mem_map.mp hx'
          obtain ⟨j, e⟩ := List.getElem?_of_mem ht
          obtain ⟨q, _, e3⟩ := paired_at hp2 e
          refine ⟨t, rfl, ?_⟩
          have e4 : pairOf (upd H2 d (.dK (kvI B))) (.ref t) = q := pairOf_ref e3
          rw [e4]
          exact e3
        subst eu
        refine ⟨p, us.map V.ref, rfl, .of upd_same, fun l o hnl hc ho => ?_⟩
        have sb : Same (upd H2 d (.dK (kvI B))) (upd (upd (upd H2 d (.dK (kvI B))) p (.lst (us.map V.ref))) l (.frz o (.tup (us.map V.ref)))) := (same_new hnp).trans (same_new hnl)
        refine k _ _ ((us.map V.ref).map (pairOf (upd H2 d (.dK (kvI B))))) (sH.trans sb) ⟨l, us, rfl, .inl ⟨o, upd_same, hc, ho⟩, pr.kept (TupK.of sb)⟩ pm ?_
        refine asc_of srt ?_
        refine (pm.map (·.1)).nodup_iff.mpr ?_
        exact (List.filter_sublist.map _).nodup hn
end
end HX
set_option linter.all false
/-! Bags as the program keeps them: a dict's pairs. Core Lean only. -/
namespace HX
def getI (D : List (Int × Int)) (n : Int) : Int := ((D.find? fun p => decide (p.1 = n)).map (·.2)).getD 0
def putI (D : List (Int × Int)) (n c : Int) : List (Int × Int) := if D.any (fun p => decide (p.1 = n)) then D.map (fun p => if p.1 = n then (p.1, c) else p) else D ++ [(n, c)]
def accB (f : Int → Int → Int) (D B : List (Int × Int)) : List (Int × Int) := B.foldl (fun D p => putI D p.1 (f (getI D p.1) p.2)) D
abbrev KN (D : List (Int × Int)) : Prop := (D.map (·.1)).Nodup

theorem getI_cons (p : Int × Int) (D : List (Int × Int)) (n : Int) : getI (p :: D) n = if p.1 = n then p.2 else getI D n := by
  unfold getI
  rw [List.find?_cons]
  by_cases h : p.1 = n
  · rw [if_pos h, decide_eq_true h]
    rfl
  · rw [if_neg h, decide_eq_false h]
theorem getI_none {D : List (Int × Int)} {n : Int} (h : n ∉ D.map (·.1)) : getI D n = 0 := by
  induction D with
  | nil => rfl
  | cons p D ih =>
    rw [getI_cons, if_neg (fun e => h (by rw [← e]; exact List.mem_cons_self))]
    exact ih fun m => h (List.mem_cons_of_mem _ m)
theorem getI_mem {D : List (Int × Int)} (k : KN D) {n c : Int} (h : (n, c) ∈ D) : getI D n = c := by
  induction D with
  | nil => cases h
  | cons p D ih =>
    have k1 := List.nodup_cons.mp (show (p.1 :: D.map (·.1)).Nodup from k)
    rw [getI_cons]
    rcases List.mem_cons.mp h with e | h
    · rw [← e, if_pos rfl]
    · rw [if_neg (fun e => k1.1 (List.mem_map.mpr ⟨_, h, e.symm⟩))]
      exact ih k1.2 h
theorem mem_getI {D : List (Int × Int)} {n : Int} (h : getI D n ≠ 0) : (n, getI D n) ∈ D := by
  induction D with
  | nil => exact absurd rfl h
  | cons p D ih =>
    rw [getI_cons] at h ⊢
    by_cases e : p.1 = n
    · rw [if_pos e, ← e]
      exact List.mem_cons_self
    · rw [if_neg e] at h ⊢
      exact List.mem_cons_of_mem _ (ih h)
theorem any_iff {D : List (Int × Int)} {n : Int} : (D.any fun p => decide (p.1 = n)) = true ↔ n ∈ D.map (·.1) := by
  rw [List.any_eq_true, List.mem_map]
  constructor
  · rintro ⟨p, h, e⟩
    exact ⟨p, h, of_decide_eq_true e⟩
  · rintro ⟨p, h, e⟩
    exact ⟨p, h, decide_eq_true e⟩
theorem map_keys (D : List (Int × Int)) (n c : Int) : (D.map fun p => if p.1 = n then (p.1, c) else p).map (·.1) = D.map (·.1) := by
  rw [List.map_map]
  refine List.map_congr_left fun p _ => ?_
  show (if p.1 = n then (p.1, c) else p).1 = p.1
  split <;> rfl
theorem putI_kn {D : List (Int × Int)} (k : KN D) (n c : Int) : KN (putI D n c) := by
  unfold putI
  by_cases h : D.any (fun p => decide (p.1 = n)) = true
  · rw [if_pos h]
    show (List.map _ (List.map _ D)).Nodup
    rw [map_keys]
    exact k
  · rw [if_neg h]
    show (List.map _ (D ++ [(n, c)])).Nodup
    rw [List.map_append]
    have hn : n ∉ D.map (·.1) := fun m => h (any_iff.mpr m)
    exact List.nodup_append.mpr ⟨k, List.nodup_cons.mpr ⟨by simp, List.nodup_nil⟩, fun a ha b hb e => hn (by
      rw [List.mem_singleton.mp (show b ∈ [n] from hb)] at e
      rw [← e]
      exact ha)⟩
theorem putI_len (D : List (Int × Int)) (n c : Int) : (putI D n c).length ≤ D.length + 1 := by
  unfold putI
  split
  · rw [List.length_map]
    exact Nat.le_succ _
  · rw [List.length_append]
    exact Nat.le_refl _
theorem getI_map (D : List (Int × Int)) (n c m : Int) : getI (D.map fun p => if p.1 = n then (p.1, c) else p) m = if m = n ∧ n ∈ D.map (·.1) then c else getI D m := by
  induction D with
  | nil =>
    rw [if_neg (fun h => by simp at h)]
    rfl
  | cons p D ih =>
    show getI ((if p.1 = n then (p.1, c) else p) :: _) m = _
    rw [getI_cons, getI_cons, ih]
    by_cases e : p.1 = n
    · rw [if_pos e]
      show (if p.1 = m then c else _) = _
      by_cases e2 : p.1 = m
      · rw [if_pos e2, if_pos ⟨by omega, by rw [← e]; exact List.mem_cons_self⟩]
      · rw [if_neg e2, if_neg (fun h => e2 (by omega)), if_neg (fun h => e2 (by omega)), if_neg e2]
    · rw [if_neg e]
      by_cases e2 : p.1 = m
      · rw [if_pos e2, if_neg (fun h => e (by omega)), if_pos e2]
      · rw [if_neg e2, if_neg e2]
        by_cases h : m = n ∧ n ∈ D.map (·.1)
        · rw [if_pos h, if_pos ⟨h.1, List.mem_cons_of_mem _ h.2⟩]
        · rw [if_neg h, if_neg (fun q => h ⟨q.1, (List.mem_cons.mp q.2).resolve_left fun z => e z.symm⟩)]
theorem getI_app (D : List (Int × Int)) (n c m : Int) (h : n ∉ D.map (·.1)) : getI (D ++ [(n, c)]) m = if m = n then c else getI D m := by
  induction D with
  | nil =>
    show getI [(n, c)] m = _
    rw [getI_cons]
    by_cases e : m = n
    · rw [if_pos e, if_pos e.symm]
    · rw [if_neg e, if_neg (fun z => e z.symm)]
  | cons p D ih =>
    have h1 : p.1 ≠ n := fun e => h (by rw [← e]; exact List.mem_cons_self)
    show getI (p :: (D ++ [(n, c)])) m = _
    rw [getI_cons, getI_cons, ih fun z => h (List.mem_cons_of_mem _ z)]
    by_cases e : p.1 = m
    · rw [if_pos e, if_neg (fun z => h1 (by omega)), if_pos e]
    · rw [if_neg e, if_neg e]
theorem getI_put (D : List (Int × Int)) (n c m : Int) : getI (putI D n c) m = if m = n then c else getI D m := by
  unfold putI
  by_cases h : D.any (fun p => decide (p.1 = n)) = true
  · rw [if_pos h, getI_map]
    have hm := any_iff.mp h
    by_cases e : m = n
    · rw [if_pos e, if_pos ⟨e, hm⟩]
    · rw [if_neg e, if_neg fun q => e q.1]
  · rw [if_neg h, getI_app _ _ _ _ fun m => h (any_iff.mpr m)]
theorem accB_kn {f : Int → Int → Int} : ∀ (B : List (Int × Int)) {D : List (Int × Int)}, KN D → KN (accB f D B)
  | [], _, k => k
  | p :: B, D, k => accB_kn B (D := putI D p.1 (f (getI D p.1) p.2)) (putI_kn k _ _)
theorem accB_len {f : Int → Int → Int} : ∀ (B : List (Int × Int)) (D : List (Int × Int)), (accB f D B).length ≤ D.length + B.length
  | [], _ => Nat.le_refl _
  | p :: B, D => by
    have h := accB_len (f := f) B (putI D p.1 (f (getI D p.1) p.2))
    have h2 := putI_len D p.1 (f (getI D p.1) p.2)
    have e : accB f D (p :: B) = accB f (putI D p.1 (f (getI D p.1) p.2)) B := rfl
    rw [e, List.length_cons]
    omega
theorem accB_get {f : Int → Int → Int} (hf : ∀ x, f x 0 = x) : ∀ (B : List (Int × Int)) {D : List (Int × Int)}, KN B → ∀ n, getI (accB f D B) n = f (getI D n) (getI B n)
  | [], D, _, n => (hf _).symm
  | p :: B, D, k, n => by
    have k1 := List.nodup_cons.mp (show (p.1 :: B.map (·.1)).Nodup from k)
    have e : accB f D (p :: B) = accB f (putI D p.1 (f (getI D p.1) p.2)) B := rfl
    rw [e, accB_get hf B k1.2 n, getI_put, getI_cons]
    by_cases h : n = p.1
    · rw [if_pos h, if_pos h.symm, h, getI_none k1.1, hf]
    · rw [if_neg h, if_neg (fun z => h z.symm)]
theorem accB_snoc (f : Int → Int → Int) (D B : List (Int × Int)) (p : Int × Int) : accB f D (B ++ [p]) = putI (accB f D B) p.1 (f (getI (accB f D B) p.1) p.2) := by
  unfold accB
  rw [List.foldl_append]
  rfl

/-! ### bags -/
theorem IsBag.kn {B : List (Int × Int)} {xs : List Int} (h : IsBag B xs) : KN B := by
  have := h.asc
  show (List.map _ B).Nodup
  rw [List.Nodup, List.pairwise_map]
  exact this.imp fun {a b} q e => by omega
theorem IsBag.get {B : List (Int × Int)} {xs : List Int} (h : IsBag B xs) (n : Int) : getI B n = (xs.count n : Int) := by
  by_cases c : xs.count n = 0
  · rw [c]
    by_cases z : getI B n = 0
    · exact z
    · have := (h.mem n _).mp (mem_getI z)
      omega
  · exact getI_mem h.kn ((h.mem n _).mpr ⟨by omega, rfl⟩)
/-- what from_counts hands back -/
theorem bag_counts {C D : List (Int × Int)} {xs : List Int} (p : C.Perm (D.filter fun p => decide (0 < p.2))) (a : C.Pairwise fun a b => a.1 < b.1) (k : KN D) (h : ∀ n, getI D n = (xs.count n : Int)) : IsBag C xs := by
  refine ⟨a, fun n c => ?_⟩
  rw [p.mem_iff, List.mem_filter]
  constructor
  · rintro ⟨hm, hc⟩
    have e := getI_mem k hm
    exact ⟨of_decide_eq_true hc, by rw [← h, e]⟩
  · rintro ⟨hc, e⟩
    have e2 := h n
    have hne : getI D n ≠ 0 := by omega
    have hm := mem_getI hne
    rw [e2, ← e] at hm
    exact ⟨hm, decide_eq_true hc⟩
theorem bag_add {xs ys : List Int} {C : List (Int × Int)} (p : C.Perm ((accB (fun a b => a + b) (bag xs) (bag ys)).filter fun p => decide (0 < p.2))) (a : C.Pairwise fun a b => a.1 < b.1) : C = bag (xs ++ ys) := by
  refine bag_of (bag_counts p a (accB_kn _ (bag_is xs).kn) fun n => ?_)
  rw [accB_get (fun x => Int.add_zero x) _ (bag_is ys).kn, (bag_is xs).get, (bag_is ys).get, List.count_append]
  omega
theorem bag_sub_zero {xs : List Int} : ∀ p ∈ accB (fun a b => a - b) (bag xs) (bag xs), p.2 = 0 := fun p h => by
  have e := getI_mem (accB_kn _ (bag_is xs).kn) (show (p.1, p.2) ∈ _ from h)
  rw [accB_get (fun x => Int.sub_zero x) _ (bag_is xs).kn] at e
  omega
theorem bag_nil : bag [] = [] := rfl
theorem bag_one (v : Int) : bag [v] = [(v, 1)] := rfl
theorem rle_len : ∀ xs : List Int, (rle xs).length ≤ xs.length
  | [] => Nat.le_refl _
  | x :: r => by
    have ih := rle_len r
    unfold rle
    split
    · rw [List.length_singleton, List.length_cons]
      omega
    · rename_i y c t e
      rw [e] at ih
      split
      · rw [List.length_cons] at ih ⊢
        rw [List.length_cons]
        omega
      · rw [List.length_cons, List.length_cons]
        exact Nat.succ_le_succ ih
theorem bag_len (xs : List Int) : (bag xs).length ≤ xs.length := by
  have h := rle_len (sortI xs)
  rw [(sortI_perm xs).length_eq] at h
  exact h

/-! ### drop -/
def mn (i j : Int) : Int := if j < i then j else i
def dropB : List (Int × Int) → Int → List (Int × Int)
  | [], _ => []
  | (n, m) :: r, l => (if mn l m < m then [(n, m - mn l m)] else []) ++ dropB r (l - mn l m)
def leftB : List (Int × Int) → Int → Int
  | [], l => l
  | (_, m) :: r, l => leftB r (l - mn l m)
theorem dropB_snoc : ∀ (B : List (Int × Int)) (p : Int × Int) (l : Int), dropB (B ++ [p]) l = dropB B l ++ (if mn (leftB B l) p.2 < p.2 then [(p.1, p.2 - mn (leftB B l) p.2)] else [])
  | [], (n, m), l => by
    show (if mn l m < m then [(n, m - mn l m)] else []) ++ [] = _
    rw [List.append_nil]
    rfl
  | (n, m) :: r, p, l => by
    show _ ++ dropB (r ++ [p]) (l - mn l m) = _
    rw [dropB_snoc r p, ← List.append_assoc]
    rfl
theorem leftB_snoc : ∀ (B : List (Int × Int)) (p : Int × Int) (l : Int), leftB (B ++ [p]) l = leftB B l - mn (leftB B l) p.2
  | [], (n, m), l => rfl
  | (n, m) :: r, p, l => leftB_snoc r p (l - mn l m)
theorem dropB_len : ∀ (B : List (Int × Int)) (l : Int), (dropB B l).length ≤ B.length
  | [], _ => Nat.le_refl _
  | (n, m) :: r, l => by
    have ih := dropB_len r (l - mn l m)
    show ((if mn l m < m then [(n, m - mn l m)] else []) ++ dropB r (l - mn l m)).length ≤ _
    rw [List.length_append, List.length_cons]
    split
    · rw [List.length_singleton]
      omega
    · rw [List.length_nil]
      omega
theorem dropB_zero : ∀ {B : List (Int × Int)}, (∀ p ∈ B, 0 < p.2) → dropB B 0 = B
  | [], _ => rfl
  | (n, m) :: r, h => by
    have hm : 0 < m := h (n, m) List.mem_cons_self
    have e : mn 0 m = 0 := if_neg (by omega)
    show (if mn 0 m < m then [(n, m - mn 0 m)] else []) ++ dropB r (0 - mn 0 m) = _
    rw [e, if_pos hm, Int.sub_zero, Int.sub_zero, dropB_zero fun p hp => h p (List.mem_cons_of_mem _ hp)]
    rfl
theorem bag_pos {xs : List Int} : ∀ p ∈ bag xs, 0 < p.2 := fun p h => (((bag_is xs).mem p.1 p.2).mp h).1
theorem bag_drop0 (xs : List Int) : dropB (bag xs) 0 = bag xs := dropB_zero bag_pos
theorem bag_drop1 {xs : List Int} (u : Up xs) : dropB (bag xs) 1 = bag xs.tail := by
  cases xs with
  | nil => rfl
  | cons x t =>
    have hb := bag_is (x :: t)
    cases eb : bag (x :: t) with
    | nil =>
      have := (hb.mem x ((x :: t).count x)).mpr ⟨by rw [List.count_cons_self]; omega, rfl⟩
      rw [eb] at this
      cases this
    | cons p r =>
      obtain ⟨n, m⟩ := p
      rw [eb] at hb
      have hm := (hb.mem n m).mp List.mem_cons_self
      have asc := List.pairwise_cons.mp hb.asc
      have hle : ∀ y ∈ x :: t, x ≤ y := fun y hy => by
        rcases List.mem_cons.mp hy with e | hy
        · omega
        · exact (List.pairwise_cons.mp u).1 y hy
      have hx := (hb.mem x ((x :: t).count x)).mpr ⟨by rw [List.count_cons_self]; omega, rfl⟩
      have hnx : n = x := by
        have h1 : x ≤ n := hle n (List.count_pos_iff.mp (by omega))
        rcases List.mem_cons.mp hx with e | h
        · exact (congrArg Prod.fst e).symm
        · have := asc.1 _ h
          have : n < x := this
          omega
      subst hnx
      have hm2 : m = ((n :: t).count n : Int) := hm.2
      rw [List.count_cons_self] at hm2
      have e1 : mn 1 m = 1 := if_neg (by omega)
      have rpos : ∀ p ∈ r, 0 < p.2 := fun p hp => ((hb.mem p.1 p.2).mp (List.mem_cons_of_mem _ hp)).1
      show (if mn 1 m < m then [(n, m - mn 1 m)] else []) ++ dropB r (1 - mn 1 m) = bag t
      rw [e1, Int.sub_self, dropB_zero rpos]
      refine bag_of ⟨?_, fun k c => ?_⟩
      · split
        · exact List.pairwise_cons.mpr ⟨asc.1, asc.2⟩
        · exact asc.2
      · have hk := hb.mem k c
        rw [List.mem_cons] at hk
        by_cases ek : k = n
        · subst ek
          have hr : (k, c) ∉ r := fun h => by
            have : k < k := asc.1 _ h
            omega
          split
          · rename_i h1
            rw [List.mem_append, List.mem_singleton]
            constructor
            · rintro (e | h)
              · have := congrArg Prod.snd e
                have : c = m - 1 := this
                omega
              · exact absurd h hr
            · rintro ⟨h2, h3⟩
              refine .inl (Prod.ext rfl ?_)
              show c = m - 1
              omega
          · rename_i h1
            rw [List.nil_append]
            constructor
            · intro h
              exact absurd h hr
            · rintro ⟨h2, h3⟩
              omega
        · rw [List.count_cons_of_ne (fun z => ek z.symm)] at hk
          rw [← hk]
          have ne : (k, c) ≠ (n, m) := fun e => ek (congrArg Prod.fst e)
          split
          · rw [List.mem_append, List.mem_singleton]
            constructor
            · rintro (e | h)
              · exact absurd (congrArg Prod.fst e) ek
              · exact .inr h
            · rintro (e | h)
              · exact absurd e ne
              · exact .inr h
          · rw [List.nil_append]
            constructor
            · exact fun h => .inr h
            · rintro (e | h)
              · exact absurd e ne
              · exact h
/-- joining a step -/
theorem eff_snoc_ins (ss : List Stp) (v : Int) : eff (ss ++ [.ins v]) = (bag (insd ss ++ [v]), nrem ss, bag ([v] ++ surv ss)) := by
  unfold eff
  rw [insd_append, nrem_append, surv_snoc]
  refine Prod.ext rfl (Prod.ext (Nat.add_zero _) ?_)
  exact bag_eq.mpr (put_perm v _)
theorem eff_snoc_rem (ss : List Stp) : eff (ss ++ [.rem]) = (bag (insd ss), nrem ss + 1, bag (surv ss).tail) := by
  unfold eff
  rw [insd_append, nrem_append, surv_snoc]
  refine Prod.ext ?_ (Prod.ext rfl rfl)
  show bag (insd ss ++ []) = _
  rw [List.append_nil]
end HX
set_option Elab.async false
set_option linter.all false
set_option maxRecDepth 100000
set_option maxHeartbeats 1000000
/-! add, subtract. -/
namespace HX
open PySem PySem.Spec PyProof.Rows L2
/-! ### the dict's pairs as ints -/
theorem kvI_val (n : Int) : ∀ D : List (Int × Int), (valV (kvI D) (Sum.inl n)).getD (.int 0) = .int (getI D n)
  | [] => rfl
  | p :: D => by
    have ih := kvI_val n D
    rw [getI_cons]
    by_cases e : p.1 = n
    · rw [if_pos e, show kvI (p :: D) = (Sum.inl p.1, V.int p.2) :: kvI D from rfl, valV_pos (by rw [e])]
      rfl
    · rw [if_neg e, show kvI (p :: D) = (Sum.inl p.1, V.int p.2) :: kvI D from rfl, valV_neg (fun q => e (Sum.inl.inj q))]
      exact ih
theorem kvI_any (n : Int) : ∀ D : List (Int × Int), ((kvI D).any fun kv => decide (kv.1 = (Sum.inl n : Key))) = D.any fun p => decide (p.1 = n)
  | [] => rfl
  | p :: D => by
    have ih := kvI_any n D
    show (decide ((Sum.inl p.1 : Key) = Sum.inl n) || (kvI D).any _) = (decide (p.1 = n) || D.any _)
    rw [ih, key_ll, Bool.beq_eq_decide_eq]
theorem kvI_map (n c : Int) : ∀ D : List (Int × Int), (kvI D).map (fun kv => if kv.1 = (Sum.inl n : Key) then (kv.1, V.int c) else kv) = kvI (D.map fun p => if p.1 = n then (p.1, c) else p)
  | [] => rfl
  | p :: D => by
    have ih := kvI_map n c D
    show (if (Sum.inl p.1 : Key) = Sum.inl n then ((Sum.inl p.1 : Key), V.int c) else (Sum.inl p.1, V.int p.2)) :: _ = (Sum.inl (if p.1 = n then (p.1, c) else p).1, V.int (if p.1 = n then (p.1, c) else p).2) :: _
    refine congr (congrArg List.cons ?_) ih
    by_cases e : p.1 = n
    · rw [if_pos (by rw [e]), if_pos e]
    · rw [if_neg (fun q => e (Sum.inl.inj q)), if_neg e]
theorem kvI_put (D : List (Int × Int)) (n c : Int) : putK (kvI D) (Sum.inl n) (.int c) = kvI (putI D n c) := by
  unfold putK putI
  rw [kvI_any]
  split
  · exact kvI_map n c D
  · unfold kvI
    rw [List.map_append]
    rfl
theorem merge_kvI : ∀ (B : List (Int × Int)) (D : List (Int × Int)), KN (D ++ B) → mergeK (kvI D) (kvI B) = kvI (D ++ B)
  | [], D, _ => by
    rw [List.append_nil]
    rfl
  | p :: B, D, k => by
    have e : mergeK (kvI D) (kvI (p :: B)) = mergeK (putK (kvI D) (Sum.inl p.1) (.int p.2)) (kvI B) := rfl
    have hn : ¬ (D.any fun q => decide (q.1 = p.1)) = true := fun h => by
      have hm := any_iff.mp h
      have k' : (D.map (·.1) ++ (p.1 :: B.map (·.1))).Nodup := by
        have k2 := k
        rw [KN, List.map_append] at k2
        exact k2
      exact (List.nodup_append.mp k').2.2 _ hm _ List.mem_cons_self rfl
    have e2 : putI D p.1 p.2 = D ++ [p] := by
      unfold putI
      rw [if_neg hn]
    rw [e, kvI_put, e2, merge_kvI B (D ++ [p]) (by rw [List.append_assoc]; exact k), List.append_assoc]
    rfl
theorem merge_bag (xs : List Int) : mergeK [] (kvI (bag xs)) = kvI (bag xs) := merge_kvI (bag xs) [] (bag_is xs).kn
theorem prs_get {K : PySem.W.Frag} {H : Hp} {ts : List Addr} {B : List (Int × Int)} (h : Prs K H ts B) {i : Nat} {x : V} (e : (ts.map V.ref)[i]? = some x) : ∃ t p, x = .ref t ∧ B[i]? = some p ∧ SqT K H t [.int p.1, .int p.2] := by
  rw [List.getElem?_map] at e
  obtain ⟨t, ht, rfl⟩ := Option.map_eq_some_iff.mp e
  obtain ⟨p, hp, hq⟩ := h.at_ ht
  exact ⟨t, p, rfl, hp, hq⟩
theorem take_snoc {α : Type} {l : List α} {i : Nat} {x : α} (h : l[i]? = some x) : l.take (i + 1) = l.take i ++ [x] := by
  rw [List.take_succ, h]
  rfl
section
variable {P : Program} {w : World} {K : PySem.W.Frag} {mg : Str → Option Value} {base : Heap}
def spAdd (K : PySem.W.Frag) : Sp := fun vs H Q _ => ∃ (v1 v2 : V) (xs ys : List Int), vs = [v1, v2] ∧ BagAt K H v1 (bag xs) ∧ BagAt K H v2 (bag ys) ∧ xs.length + ys.length ≤ 900 ∧ ∀ v H', Same H H' → BagAt K H' v (bag (xs ++ ys)) → Q v H'
theorem sc7 : FnScope ["first", "second", "counts", "number", "count"] ["first", "second"] (defScope (top 7)) := ⟨rfl, rfl, rfl, by decide +kernel, rfl, by decide +kernel, by decide +kernel⟩
theorem cal_add (D : Def K mg "add" (top 7) ["first", "second"]) (T : Txt K mg) (C : Cal P w K mg base 1 "from_counts" (spFrom K)) : Cal P w K mg base 2 "add" (spAdd K) := by
  refine D.cal sc7 (fun vs H Q E h => ?_) (fun f cdv A outer s H vs Q E hr h => ?_)
  · obtain ⟨v1, v2, xs, ys, rfl, _⟩ := h
    rfl
  · obtain ⟨v1, v2, xs, ys, rfl, b1, b2, hz, k⟩ := h
    have hu := hu_of hr
    refine ⟨_, pss_cons (ps_set (i := 2) sc7.nd rfl (.inl rfl) (pe_callTy (call_dictT rfl) rfl T.dict boot_dict (pa_cons (pv 0) pa_nil)))
      (pss_cons (ps_for PassesOwn.never rfl (pi_tup (pv 1)) (pg_tup (n := 2) rfl (pgs_cons (pg_name (i := 3) sc7.nd rfl (.inl rfl)) (pgs_cons (pg_name (i := 4) sc7.nd rfl (.inl rfl)) pgs_nil)))
        (pss_one (ps_dput hu (pv 2) (pv 3) (pe_op op_add (pe_dget2 hu (pv 2) (pv 3) pe_int ⟨rfl, rfl, rfl, rfl⟩) (pv 4)) rfl)))
      (pss_one (ps_ret (pe_cl C hr (pa_cons (pv 2) pa_nil))))), ?_⟩
    refine ⟨_, rfl, v1, _, rfl, b1, fun d hd => ?_⟩
    obtain ⟨a2, ts, rfl, pt, pr⟩ := b2
    have tk0 : TupK H (upd H d (.dK (mergeK [] (kvI (bag xs))))) := TupK.of (same_new hd)
    refine ⟨_, rfl, a2, rfl, ⟨_, tk0.sqT pt.sq⟩, for_tup (K := K) (a := a2) (xs := ts.map V.ref) (fun i σ H' => ∃ o1 o2 : Option V, σ = [some v1, some (.ref a2), some (.ref d), o1, o2] ∧ Same H H' ∧ H' d = some (.dK (kvI (accB (fun a b => a + b) (bag xs) ((bag ys).take i)))))
      ⟨none, none, rfl, same_new hd, by rw [upd_same, merge_bag]; rfl⟩ (fun i σ H' _ ⟨_, _, _, sm, _⟩ => Same.sqT sm pt.sq) ?_ ?_⟩
    · rintro i x σ H' hi ⟨o1, o2, rfl, sm, hD⟩
      obtain ⟨t, p, rfl, hp, hq⟩ := prs_get (pr.kept (TupK.of sm)) hi
      refine ⟨t, _, rfl, hq, rfl, _, _, rfl, _, _, rfl, rfl, ?_⟩
      refine ⟨_, rfl, d, rfl, .inl ⟨_, .inl hD⟩, _, rfl, _, DGet.k (k := Sum.inl p.1) hD, _, rfl, getI (accB (fun a b => a + b) (bag xs) ((bag ys).take i)) p.1, p.2, kvI_val _ _, rfl, ?_⟩
      refine ⟨_, rfl, _, rfl, d, _, rfl, DPut.k (k := Sum.inl p.1) hD ?_, ?_⟩
      · have h1 : (kvI (accB (fun a b => a + b) (bag xs) ((bag ys).take i))).length = (accB (fun a b => a + b) (bag xs) ((bag ys).take i)).length := List.length_map _
        have h2 := accB_len (f := fun a b => a + b) ((bag ys).take i) (bag xs)
        have h3 := bag_len xs
        have h4 := bag_len ys
        have h5 := List.length_take_le' i (bag ys)
        exact lt1000 (by omega)
      · refine ⟨_, _, rfl, Same.over sm hd, ?_⟩
        rw [upd_same, kvI_put, take_snoc hp, accB_snoc]
    · rintro σ H' ⟨o1, o2, rfl, sm, hD⟩
      have hl : (ts.map V.ref).length = (bag ys).length := by rw [List.length_map, pr.length]
      rw [hl, List.take_length] at hD
      have h2 := accB_len (f := fun a b => a + b) (bag ys) (bag xs)
      have h3 := bag_len xs
      have h4 := bag_len ys
      refine ⟨_, rfl, d, _, rfl, hD, accB_kn _ (bag_is xs).kn, by omega, fun v H2 C s2 hC pm asc => k v H2 (sm.trans s2) ?_⟩
      rw [← bag_add pm asc]
      exact hC
/-- a bag less itself -/
def spSub (K : PySem.W.Frag) : Sp := fun vs H Q _ => ∃ (v1 v2 : V) (xs : List Int), vs = [v1, v2] ∧ BagAt K H v1 (bag xs) ∧ BagAt K H v2 (bag xs) ∧ xs.length ≤ 400 ∧ ∀ v H', Same H H' → BagAt K H' v (bag []) → Q v H'
theorem sc8 : FnScope ["bag", "other", "counts", "number", "count"] ["bag", "other"] (defScope (top 8)) := ⟨rfl, rfl, rfl, by decide +kernel, rfl, by decide +kernel, by decide +kernel⟩
theorem cal_sub (D : Def K mg "subtract" (top 8) ["bag", "other"]) (T : Txt K mg) (C : Cal P w K mg base 1 "from_counts" (spFrom K)) : Cal P w K mg base 2 "subtract" (spSub K) := by
  refine D.cal sc8 (fun vs H Q E h => ?_) (fun f cdv A outer s H vs Q E hr h => ?_)
  · obtain ⟨v1, v2, xs, rfl, _⟩ := h
    rfl
  · obtain ⟨v1, v2, xs, rfl, b1, b2, hz, k⟩ := h
    have hu := hu_of hr
    refine ⟨_, pss_cons (ps_set (i := 2) sc8.nd rfl (.inl rfl) (pe_callTy (call_dictT rfl) rfl T.dict boot_dict (pa_cons (pv 0) pa_nil)))
      (pss_cons (ps_for PassesOwn.never rfl (pi_tup (pv 1)) (pg_tup (n := 2) rfl (pgs_cons (pg_name (i := 3) sc8.nd rfl (.inl rfl)) (pgs_cons (pg_name (i := 4) sc8.nd rfl (.inl rfl)) pgs_nil)))
        (pss_one (ps_dput hu (pv 2) (pv 3) (pe_op op_sub (pe_dget2 hu (pv 2) (pv 3) pe_int ⟨rfl, rfl, rfl, rfl⟩) (pv 4)) rfl)))
      (pss_one (ps_ret (pe_ifExp (pt_val (pe_callB (cr_any rfl) rfl T.any boot_any (pa_cons
        (pe_lock (pe_lc (own := [("count", 4)]) (g := gName 4) (tt := tYes) rfl sc8.nd (pi_values (pv 2)) (blkOk_by (N := ["bag", "other", "counts", "number", "count"]) (sc := defScope (top 8)) (by decide +kernel))
          (fun _ _ _ _ _ => pg_name (i := 4) sc8.nd rfl (.inl rfl)) (fun _ _ _ _ _ => pts_nil) (fun _ _ _ _ _ => pe_cmpR op_lt (pv 4) pe_int (nomark _)))) pa_nil)))
        pe_non (pe_cl C hr (pa_cons (pv 2) pa_nil)))))), ?_⟩
    refine ⟨_, rfl, v1, _, rfl, b1, fun d hd => ?_⟩
    obtain ⟨a2, ts, rfl, pt, pr⟩ := b2
    have tk0 : TupK H (upd H d (.dK (mergeK [] (kvI (bag xs))))) := TupK.of (same_new hd)
    refine ⟨_, rfl, a2, rfl, ⟨_, tk0.sqT pt.sq⟩, for_tup (K := K) (a := a2) (xs := ts.map V.ref) (fun i σ H' => ∃ o1 o2 : Option V, σ = [some v1, some (.ref a2), some (.ref d), o1, o2] ∧ Same H H' ∧ H' d = some (.dK (kvI (accB (fun a b => a - b) (bag xs) ((bag xs).take i)))))
      ⟨none, none, rfl, same_new hd, by rw [upd_same, merge_bag]; rfl⟩ (fun i σ H' _ ⟨_, _, _, sm, _⟩ => Same.sqT sm pt.sq) ?_ ?_⟩
    · rintro i x σ H' hi ⟨o1, o2, rfl, sm, hD⟩
      obtain ⟨t, p, rfl, hp, hq⟩ := prs_get (pr.kept (TupK.of sm)) hi
      refine ⟨t, _, rfl, hq, rfl, _, _, rfl, _, _, rfl, rfl, ?_⟩
      refine ⟨_, rfl, d, rfl, .inl ⟨_, .inl hD⟩, _, rfl, _, DGet.k (k := Sum.inl p.1) hD, _, rfl, getI (accB (fun a b => a - b) (bag xs) ((bag xs).take i)) p.1, p.2, kvI_val _ _, rfl, ?_⟩
      refine ⟨_, rfl, _, rfl, d, _, rfl, DPut.k (k := Sum.inl p.1) hD ?_, ?_⟩
      · have h1 : (kvI (accB (fun a b => a - b) (bag xs) ((bag xs).take i))).length = (accB (fun a b => a - b) (bag xs) ((bag xs).take i)).length := List.length_map _
        have h2 := accB_len (f := fun a b => a - b) ((bag xs).take i) (bag xs)
        have h3 := bag_len xs
        have h5 := List.length_take_le' i (bag xs)
        exact lt1000 (by omega)
      · refine ⟨_, _, rfl, Same.over sm hd, ?_⟩
        rw [upd_same, kvI_put, take_snoc hp, accB_snoc]
    · rintro σ H' ⟨o1, o2, rfl, sm, hD⟩
      have hl : (ts.map V.ref).length = (bag xs).length := by rw [List.length_map, pr.length]
      rw [hl, List.take_length] at hD
      have h2 := accB_len (f := fun a b => a - b) (bag xs) (bag xs)
      have h3 := bag_len xs
      have hz0 := bag_sub_zero (xs := xs)
      generalize eE : accB (fun a b => a - b) (bag xs) (bag xs) = Es at *
      have kn : KN Es := by
        rw [← eE]
        exact accB_kn _ (bag_is xs).kn
      refine ⟨d, _, hD, trivial, fun od => ⟨_, rfl, d, od, kvI Es, rfl, upd_same, fun L hL => ?_⟩⟩
      have nLd : L ≠ d := fun z => by
        rw [z, upd_same] at hL
        cases hL
      refine lc_it walk_values (fun i H2 => H2 = upd (upd H' d (.frz od (.dK (kvI Es)))) L (.lst (List.replicate i (V.bl false)))) rfl (fun i H2 _ h => by
        rw [h, upd_ne nLd.symm, upd_same]) ?_ ?_
      · rintro i x H2 H3 hi rfl ⟨rfl, kk, hx⟩
        have hx' : ∃ p ∈ Es, x = .int p.2 := by
          unfold kvI at hx
          rw [List.getElem?_map] at hx
          obtain ⟨p, hp, e⟩ := Option.map_eq_some_iff.mp hx
          exact ⟨p, List.mem_of_getElem? hp, (congrArg Prod.snd e).symm⟩
        obtain ⟨p, hp, rfl⟩ := hx'
        refine ⟨rfl, _, rfl, _, _, rfl, rfl, List.replicate i (V.bl false), upd_same, ?_, ?_⟩
        · rw [List.length_replicate]
          have h1 : (kvI Es).length = Es.length := List.length_map _
          exact lt1000 (by omega)
        · rw [upd_upd, hz0 p hp, List.replicate_succ']
          rfl
      · rintro H2 rfl
        refine ⟨by rw [upd_ne nLd.symm, upd_same], ?_⟩
        have eany : (List.replicate (kvI Es).length false).any id = false := by
          rw [List.any_eq_false]
          intro b hb
          rw [List.eq_of_mem_replicate hb]
          decide
        refine ⟨L, List.replicate (kvI Es).length false, rfl, .of ?_, false, by rw [eany], ?_⟩
        · rw [upd_ne nLd, upd_same, List.map_replicate]
        · refine iteF ⟨_, rfl, d, Es, rfl, upd_same, kn, by omega, fun v H3 C s2 hC pm asc => k v H3 ?_ ?_⟩
          · refine Same.trans (fun b o e => ?_) s2
            by_cases z : b = d
            · rw [z] at e
              rw [hd] at e
              cases e
            · rw [upd_ne z, upd_ne (ne_of_none (sm _ _ e) ?_), upd_ne z]
              · exact sm _ _ e
              · rw [upd_ne nLd] at hL
                exact hL
          · have eC : Es.filter (fun p => decide (0 < p.2)) = [] := List.filter_eq_nil_iff.mpr fun p hp => by
              rw [hz0 p hp]
              decide
            rw [eC] at pm
            rw [pm.eq_nil] at hC
            exact hC
end
end HX
set_option Elab.async false
set_option linter.all false
set_option maxRecDepth 100000
set_option maxHeartbeats 1000000
/-! scale, drop. -/
namespace HX
open PySem PySem.Spec PyProof.Rows L2
theorem lst_notup {H : Hp} {L : Addr} {xs : List V} (h : H L = some (.lst xs)) : NoTup [L] H := fun b hb => by
  rw [List.mem_singleton.mp hb, h]
  exact ⟨fun _ z => (nomatch z), fun _ _ z => (nomatch z)⟩
theorem tupk_set {H : Hp} {L : Addr} {xs zs : List V} (h : H L = some (.lst xs)) : TupK H (upd H L (.lst zs)) := (Kept.set (W := [L]) List.mem_cons_self).tup (lst_notup h)
/-- a tuple is made and put at the end of a list -/
theorem tupk_app {H : Hp} {L q : Addr} {xs ys zs : List V} (h : H L = some (.lst xs)) (hq : H q = none) : TupK H (upd (upd H q (.tup ys)) L (.lst zs)) :=
  (TupK.of (same_new hq)).trans (tupk_set (xs := xs) (by rw [upd_ne (ne_of_none h hq)]; exact h))
theorem Same.free' {H0 H : Hp} {l : Addr} (s : Same H0 H) (h : H l = none) : H0 l = none := s.free h
section
variable {P : Program} {w : World} {K : PySem.W.Frag} {mg : Str → Option Value} {base : Heap}
def spScale (K : PySem.W.Frag) : Sp := fun vs H Q _ => ∃ (v : V) (n : Int), vs = [v, .int 1] ∧ BagAt K H v (bag [n]) ∧ ∀ v' H', Same H H' → BagAt K H' v' (bag [n]) → Q v' H'
theorem sc9 : FnScope ["bag", "count", "number", "many"] ["bag", "count"] (defScope (top 9)) := ⟨rfl, rfl, rfl, by decide +kernel, rfl, by decide +kernel, by decide +kernel⟩
theorem cal_scale (D : Def K mg "scale" (top 9) ["bag", "count"]) (T : Txt K mg) : Cal P w K mg base 1 "scale" (spScale K) := by
  refine D.cal sc9 (fun vs H Q E h => ?_) (fun f cdv A outer s H vs Q E hr h => ?_)
  · obtain ⟨v, n, rfl, _⟩ := h
    rfl
  · obtain ⟨v, n, rfl, b1, k⟩ := h
    refine ⟨_, pss_one (ps_ret (pe_ifExp (pt_cmpR op_gt (pv 1) pe_int (nomark _)) (pe_callTy cr_tupF rfl T.tuple boot_tuple (pa_cons
      (pe_lc (own := [("number", 2), ("many", 3)]) (g := gTup K 2 (gCons (gName 2) (gCons (gName 3) gNil))) (tt := tYes) rfl sc9.nd (pi_tup (pv 0)) (blkOk_by (N := ["bag", "count", "number", "many"]) (sc := defScope (top 9)) (by decide +kernel))
        (fun _ _ _ _ _ => pg_tup rfl (pgs_cons (pg_name (i := 2) sc9.nd rfl (.inl rfl)) (pgs_cons (pg_name (i := 3) sc9.nd rfl (.inl rfl)) pgs_nil)))
        (fun _ _ _ _ _ => pts_nil) (fun _ _ _ _ _ => pe_tup (pa_cons (pv 2) (pa_cons (pe_op op_mul (pv 3) (pv 1)) pa_nil)))) pa_nil)) (pe_tupF pa_nil))), ?_⟩
    obtain ⟨a, ts, rfl, pt, pr⟩ := b1
    have lt : ts.length = 1 := pr.length
    refine ⟨_, rfl, 1, 0, rfl, rfl, _, rfl, iteT ?_⟩
    refine ⟨_, rfl, a, rfl, ⟨_, pt.sq⟩, fun L hL => ?_⟩
    refine lc_tup (K := K) (a := a) (xs := ts.map V.ref) (fun i H' => Same H H' ∧ ∃ us, H' L = some (.lst (us.map V.ref)) ∧ Prs K H' us ((bag [n]).take i)) ⟨same_new hL, [], upd_same, .nil⟩ (fun i H' _ h => Same.sqT h.1 pt.sq) ?_ ?_
    · rintro i x H' hi ⟨sm, us, hU, pU⟩
      obtain ⟨t, p, rfl, hp, hq⟩ := prs_get (pr.kept (TupK.of sm)) hi
      have lU := pU.length
      have h5 := List.length_take_le' i (bag [n])
      have h6 : (bag [n]).length = 1 := rfl
      refine ⟨t, _, rfl, hq, rfl, _, _, rfl, _, _, rfl, rfl, rfl, ?_⟩
      refine ⟨_, rfl, _, rfl, _, rfl, p.2, 1, rfl, rfl, .inr (by decide), (by show 2 ≤ sizeLine; decide), fun q hq2 => ⟨us.map V.ref, ?_, ?_, ?_⟩⟩
      · rw [upd_ne (ne_of_none hU hq2)]
        exact hU
      · rw [List.length_map]
        exact lt1000 (by omega)
      · have nLq : L ≠ q := ne_of_none hU hq2
        have sa := Same.over (sm.trans (same_new (o := .tup [.int p.1, .int (p.2 * 1)]) hq2)) (o := .lst (us.map V.ref ++ [.ref q])) hL
        refine ⟨sa, us ++ [q], by rw [upd_same, List.map_append]; rfl, ?_⟩
        rw [take_snoc hp]
        refine paired_snoc (pU.kept (tupk_app hU hq2)) (.of ?_)
        rw [upd_ne nLq.symm, upd_same]
        show some (HO.tup [V.int p.1, V.int (p.2 * 1)]) = _
        rw [Int.mul_one]
    · rintro H' ⟨sm, us, hU, pU⟩
      have hl : (ts.map V.ref).length = (bag [n]).length := by rw [List.length_map, lt]; rfl
      rw [hl, List.take_length] at pU
      refine ⟨L, us.map V.ref, rfl, .of hU, fun l o hl hc ho => ?_⟩
      exact k _ _ (sm.trans (same_new hl)) ⟨l, us, rfl, .inl ⟨o, upd_same, hc, ho⟩, pU.kept (TupK.of (same_new hl))⟩
def spDrop (K : PySem.W.Frag) : Sp := fun vs H Q _ => ∃ (v : V) (xs : List Int) (c : Nat), vs = [v, .int c] ∧ BagAt K H v (bag xs) ∧ Up xs ∧ c ≤ 1 ∧ xs.length ≤ 900 ∧ ∀ v' H', Same H H' → BagAt K H' v' (bag (if c = 0 then xs else xs.tail)) → Q v' H'
theorem drop_math {xs : List Int} (u : Up xs) {c : Nat} (h : c ≤ 1) : dropB (bag xs) (c : Int) = bag (if c = 0 then xs else xs.tail) := by
  by_cases e : c = 0
  · rw [if_pos e, e]
    exact bag_drop0 xs
  · have e1 : c = 1 := by omega
    rw [if_neg e, e1]
    exact bag_drop1 u
theorem sc10 : FnScope ["bag", "count", "left", "kept", "number", "many", "dropped"] ["bag", "count"] (defScope (top 10)) := ⟨rfl, rfl, rfl, by decide +kernel, rfl, by decide +kernel, by decide +kernel⟩
theorem cal_drop (D : Def K mg "drop" (top 10) ["bag", "count"]) (T : Txt K mg) : Cal P w K mg base 1 "drop" (spDrop K) := by
  refine D.cal sc10 (fun vs H Q E h => ?_) (fun f cdv A outer s H vs Q E hr h => ?_)
  · obtain ⟨v, xs, c, rfl, _⟩ := h
    rfl
  · obtain ⟨v, xs, c, rfl, b1, up, hc, hz, k⟩ := h
    refine ⟨_, pss_cons (ps_par (i := 2) (j := 3) rfl sc10.nd rfl rfl (by decide) rfl rfl (pa_cons (pv 1) (pa_cons (pe_lst pa_nil) pa_nil)) rfl)
      (pss_cons (ps_for PassesOwn.never rfl (pi_tup (pv 0)) (pg_tup (n := 2) rfl (pgs_cons (pg_name (i := 4) sc10.nd rfl (.inl rfl)) (pgs_cons (pg_name (i := 5) sc10.nd rfl (.inl rfl)) pgs_nil)))
        (pss_cons (ps_set (i := 6) sc10.nd rfl (.inl rfl) (pe_callB (call_min2 rfl) rfl T.min boot_min (pa_cons (pv 2) (pa_cons (pv 5) pa_nil))))
        (pss_cons (ps_aug (i := 2) sc10.nd rfl (.inl rfl) (pv 6) ip_sub)
        (pss_one (ps_if (pt_cmpR op_gt (pv 5) (pv 6) (nomark _)) (pss_one (ps_expr (pe_bm PySem.F.plainAttrs_list PySem.F.slot_list_append PySem.F.type_list_append mt_append (pv 3) (pa_cons (pe_tup (pa_cons (pv 4) (pa_cons (pe_op op_sub (pv 5) (pv 6)) pa_nil))) pa_nil)))) pss_nil)))))
      (pss_one (ps_ret (pe_callTy cr_tupF rfl T.tuple boot_tuple (pa_cons (pv 3) pa_nil))))), ?_⟩
    obtain ⟨a, ts, rfl, pt, pr⟩ := b1
    refine ⟨_, rfl, Nat.zero_le _, fun L hL => ⟨_, _, rfl, ?_⟩⟩
    refine ⟨_, rfl, a, rfl, ⟨_, Same.sqT (same_new hL) pt.sq⟩, for_tup (K := K) (a := a) (xs := ts.map V.ref) (fun i σ H' => ∃ o1 o2 o3 : Option V, σ = [some (.ref a), some (.int c), some (.int (leftB ((bag xs).take i) c)), some (.ref L), o1, o2, o3] ∧ Same H H' ∧ ∃ us, H' L = some (.lst (us.map V.ref)) ∧ Prs K H' us (dropB ((bag xs).take i) c))
      ⟨none, none, none, rfl, same_new hL, [], upd_same, .nil⟩ (fun i σ H' _ ⟨_, _, _, _, sm, _⟩ => Same.sqT sm pt.sq) ?_ ?_⟩
    · rintro i x σ H' hi ⟨o1, o2, o3, rfl, sm, us, hU, pU⟩
      obtain ⟨t, p, rfl, hp, hq⟩ := prs_get (pr.kept (TupK.of sm)) hi
      have lU := pU.length
      have h5 := List.length_take_le' i (bag xs)
      have h6 := dropB_len ((bag xs).take i) c
      have h7 := bag_len xs
      refine ⟨t, _, rfl, hq, rfl, _, _, rfl, _, _, rfl, rfl, ?_⟩
      refine ⟨_, rfl, _, rfl, leftB ((bag xs).take i) c, p.2, rfl, ?_⟩
      refine ⟨_, rfl, _, rfl, _, _, rfl, rfl, ?_⟩
      refine ⟨_, rfl, _, rfl, _, _, rfl, rfl, _, rfl, ?_⟩
      rw [show (if p.2 < leftB ((bag xs).take i) c then p.2 else leftB ((bag xs).take i) c) = mn (leftB ((bag xs).take i) c) p.2 from rfl]
      by_cases g : mn (leftB ((bag xs).take i) c) p.2 < p.2
      · rw [decide_eq_true g]
        refine iteT ⟨_, rfl, .inl ⟨rfl, _, SqL.of hU⟩, _, rfl, _, rfl, _, rfl, _, _, rfl, rfl, (by show 2 ≤ sizeLine; decide), fun q hq2 => ?_⟩
        have nLq : L ≠ q := ne_of_none hU hq2
        refine ⟨L, us.map V.ref, .ref q, rfl, rfl, by rw [upd_ne nLq]; exact hU, ?_, ?_⟩
        · rw [List.length_map]
          exact lt1000 (by omega)
        · have sa := Same.over (sm.trans (same_new (o := .tup [.int p.1, .int (p.2 - mn (leftB ((bag xs).take i) c) p.2)]) hq2)) (o := .lst (us.map V.ref ++ [.ref q])) hL
          refine ⟨_, _, _, by rw [take_snoc hp, leftB_snoc]; rfl, sa, us ++ [q], by rw [upd_same, List.map_append]; rfl, ?_⟩
          rw [take_snoc hp, dropB_snoc, if_pos g]
          refine paired_snoc (pU.kept (tupk_app hU hq2)) (.of ?_)
          rw [upd_ne nLq.symm, upd_same]
      · rw [decide_eq_false g]
        refine iteF ⟨_, _, _, by rw [take_snoc hp, leftB_snoc]; rfl, sm, us, hU, ?_⟩
        rw [take_snoc hp, dropB_snoc, if_neg g, List.append_nil]
        exact pU
    · rintro σ H' ⟨o1, o2, o3, rfl, sm, us, hU, pU⟩
      have hl : (ts.map V.ref).length = (bag xs).length := by rw [List.length_map, pr.length]
      rw [hl, List.take_length, drop_math up hc] at pU
      refine ⟨_, rfl, L, us.map V.ref, rfl, .of hU, fun l o hl hc ho => ?_⟩
      exact k _ _ (sm.trans (same_new hl)) ⟨l, us, rfl, .inl ⟨o, upd_same, hc, ho⟩, pU.kept (TupK.of (same_new hl))⟩
end
end HX
set_option Elab.async false
set_option linter.all false
set_option maxRecDepth 100000
set_option maxHeartbeats 1000000
/-! is_step, the effects, check_sequence. -/
namespace HX
open PySem PySem.Spec PyProof.Rows L2
def insS : Stp → List Int
  | .ins v => [v]
  | .rem => []
def remS : Stp → Nat
  | .ins _ => 0
  | .rem => 1
def effS (s : Stp) : List (Int × Int) × Nat × List (Int × Int) := (bag (insS s), remS s, bag (insS s))
theorem eff_snoc (ss : List Stp) (s : Stp) : eff (ss ++ [s]) = (bag (insd ss ++ insS s), nrem ss + remS s, bag (insS s ++ if remS s = 0 then surv ss else (surv ss).tail)) := by
  cases s with
  | ins v => exact eff_snoc_ins ss v
  | rem =>
    rw [eff_snoc_rem]
    show _ = (bag (insd ss ++ []), _, _)
    rw [List.append_nil]
    rfl
theorem insd_le (ss : List Stp) : (insd ss).length ≤ ss.length := by
  have := len_split ss
  omega
theorem act_le (s : Stp) (h : List Int) : (act s h).length ≤ h.length + 1 := by
  cases s with
  | ins v =>
    show (put v h).length ≤ _
    rw [put_length]
    exact Nat.le_refl _
  | rem =>
    show h.tail.length ≤ _
    rw [List.length_tail]
    omega
theorem run_le : ∀ (ss : List Stp) (h : List Int), (run ss h).length ≤ h.length + ss.length
  | [], _ => Nat.le_refl _
  | s :: r, h => by
    have h1 := act_le s h
    have h2 := run_le r (act s h)
    rw [run_cons, List.length_cons]
    omega
theorem surv_le (ss : List Stp) : (surv ss).length ≤ ss.length := by
  have := run_le ss []
  rw [List.length_nil, Nat.zero_add] at this
  exact this
theorem ite_yes {c A B : Prop} [Decidable c] (hc : c) (h : A) : if c then A else B := by
  rw [if_pos hc]
  exact h
theorem ite_no {c A B : Prop} [Decidable c] (hc : ¬ c) (h : B) : if c then A else B := by
  rw [if_neg hc]
  exact h
section
variable {P : Program} {w : World} {K : PySem.W.Frag} {mg : Str → Option Value} {base : Heap}
def spStep (K : PySem.W.Frag) : Sp := fun vs H Q _ => ∃ (a : Addr) (s : Stp) (n : Int), vs = [.ref a, .int n] ∧ SqT K H a (stepV s) ∧ Q (.bl true) H
theorem sc13 : FnScope ["step", "depth", "word", "number", "count", "inner"] ["step", "depth"] (defScope (top 13)) := ⟨rfl, rfl, rfl, by decide +kernel, rfl, by decide +kernel, by decide +kernel⟩
theorem cal_step (D : Def K mg "is_step" (top 13) ["step", "depth"]) (T : Txt K mg) (CI : Cal P w K mg base 1 "is_integer" spInt) (CC : Cal P w K mg base 2 "is_count" spCount) : Cal P w K mg base 3 "is_step" (spStep K) := by
  refine D.cal sc13 (fun vs H Q E h => ?_) (fun f cdv A outer s H vs Q E hr h => ?_)
  · obtain ⟨a, s, n, rfl, _⟩ := h
    rfl
  · obtain ⟨a, s, n, rfl, hs, k⟩ := h
    refine ⟨_, pss_one (ps_match (pv 0) (pcs_seq (is := [2, 3, 4]) rfl sc13.nd (.cons ⟨_, _, rfl, rfl, rfl⟩ (.cons ⟨_, _, rfl, rfl, rfl⟩ (.cons ⟨_, _, rfl, rfl, rfl⟩ .nil))) (pt_cmpR op_eq (pv 2) pe_str (nomark _))
      (pss_one (ps_ret (pe_and (pe_callB call_isi_tuple rfl T.isi boot_isinstance (pa_cons (pv 0) (pa_cons (pe_bltn (v := .ty "tuple") rfl T.tuple boot_tuple rfl) pa_nil))) (pe_and (pe_cl CI hr (pa_cons (pv 3) pa_nil)) (pe_one (pe_cl CC hr (pa_cons (pv 4) pa_nil)))))))
      (pcs_seq (is := [2, 4]) rfl sc13.nd (.cons ⟨_, _, rfl, rfl, rfl⟩ (.cons ⟨_, _, rfl, rfl, rfl⟩ .nil)) (pt_cmpR op_eq (pv 2) pe_str (nomark _))
        (pss_one (ps_ret (pe_and (pe_callB call_isi_tuple rfl T.isi boot_isinstance (pa_cons (pv 0) (pa_cons (pe_bltn (v := .ty "tuple") rfl T.tuple boot_tuple rfl) pa_nil))) (pe_one (pe_cl CC hr (pa_cons (pv 4) pa_nil))))))
        pcs_never))), ?_⟩
    refine ⟨_, rfl, a, _, rfl, hs, ?_⟩
    cases s with
    | ins v =>
      refine ite_yes rfl ⟨_, rfl, rfl, _, rfl, ite_yes (decide_eq_true rfl) ?_⟩
      exact ⟨_, rfl, _, _, rfl, stp_dp (s := .ins v) hs, _, rfl, iteT ⟨_, rfl, v, rfl, _, rfl, iteT ⟨_, rfl, 1, rfl, k⟩⟩⟩
    | rem =>
      refine ite_no (by decide) ⟨a, _, rfl, hs, ite_yes rfl ⟨_, rfl, rfl, _, rfl, ite_yes (decide_eq_true rfl) ?_⟩⟩
      exact ⟨_, rfl, _, _, rfl, stp_dp (s := .rem) hs, _, rfl, iteT ⟨_, rfl, 1, rfl, k⟩⟩

/-! ### the effect of a step, of a program -/
def spJoin (K : PySem.W.Frag) : Sp := fun vs H Q _ => ∃ (v1 v2 : V) (ss : List Stp) (s : Stp), vs = [v1, v2] ∧ EffAt K H v1 (eff ss) ∧ EffAt K H v2 (effS s) ∧ ss.length ≤ 100 ∧ ∀ v H', Same H H' → EffAt K H' v (eff (ss ++ [s])) → Q v H'
theorem sc16 : FnScope ["first", "second", "inserted", "removals", "survivors", "left"] ["first", "second"] (defScope (top 16)) := ⟨rfl, rfl, rfl, by decide +kernel, rfl, by decide +kernel, by decide +kernel⟩
theorem insS_le : ∀ s : Stp, (insS s).length ≤ 1
  | .ins _ => Nat.le_refl _
  | .rem => Nat.zero_le _
theorem remS_le : ∀ s : Stp, remS s ≤ 1
  | .ins _ => Nat.zero_le _
  | .rem => Nat.le_refl _
theorem cal_join (D : Def K mg "join_parts" (top 16) ["first", "second"]) (CA : Cal P w K mg base 2 "add" (spAdd K)) (CS : Cal P w K mg base 2 "subtract" (spSub K)) (CD : Cal P w K mg base 1 "drop" (spDrop K)) : Cal P w K mg base 3 "join_parts" (spJoin K) := by
  refine D.cal sc16 (fun vs H Q E h => ?_) (fun f cdv A outer s H vs Q E hr h => ?_)
  · obtain ⟨v1, v2, ss, s, rfl, _⟩ := h
    rfl
  · obtain ⟨v1, v2, ss, s, rfl, e1, e2, hl, k⟩ := h
    refine ⟨_, pss_cons (ps_asg (pv 1) (pg_tup (n := 3) rfl (pgs_cons (pg_name (i := 2) sc16.nd rfl (.inl rfl)) (pgs_cons (pg_name (i := 3) sc16.nd rfl (.inl rfl)) (pgs_cons (pg_name (i := 4) sc16.nd rfl (.inl rfl)) pgs_nil)))))
      (pss_cons (ps_set (i := 5) sc16.nd rfl (.inl rfl) (pe_cl CD hr (pa_cons (pe_cl CA hr (pa_cons (pe_ix ix_tup (pv 0) pe_int (fun _ _ => rfl)) (pa_cons (pe_cl CS hr (pa_cons (pv 2) (pa_cons (pv 4) pa_nil))) pa_nil))) (pa_cons (pv 3) pa_nil))))
      (pss_one (ps_ret (pe_tup (pa_cons (pe_cl CA hr (pa_cons (pe_ix ix_tup (pv 0) pe_int (fun _ _ => rfl)) (pa_cons (pv 2) pa_nil))) (pa_cons (pe_op op_add (pe_ix ix_tup (pv 0) pe_int (fun _ _ => rfl)) (pv 3)) (pa_cons (pe_cl CA hr (pa_cons (pv 4) (pa_cons (pv 5) pa_nil))) pa_nil))))))), ?_⟩
    obtain ⟨a1, x1, y1, rfl, q1, bx1, by1⟩ := e1
    obtain ⟨a2, x2, y2, rfl, q2, bx2, by2⟩ := e2
    have hi := insd_le ss
    have hs := surv_le ss
    have h1 := insS_le s
    have hst : (surv ss).tail.length ≤ (surv ss).length := by
      rw [List.length_tail]
      omega
    -- inserted, removals, survivors = second
    refine ⟨_, rfl, a2, _, rfl, q2, rfl, _, _, rfl, _, _, rfl, _, _, rfl, rfl, ?_⟩
    -- left
    refine ⟨_, rfl, a1, _, 2, _, rfl, rfl, q1, rfl, _, rfl, _, rfl, x2, y2, insS s, rfl, bx2, by2, by omega, fun v3 H3 s3 b3 => ?_⟩
    have tk3 := TupK.of s3
    refine ⟨y1, v3, surv ss, [], rfl, by1.kept tk3, b3, by rw [List.length_nil]; omega, fun v4 H4 s4 b4 => ?_⟩
    have tk4 := TupK.of s4
    rw [List.append_nil] at b4
    refine ⟨_, rfl, v4, surv ss, remS s, rfl, b4, surv_up ss, remS_le s, by omega, fun v5 H5 s5 b5 => ?_⟩
    have s25 : Same H H5 := (s3.trans s4).trans s5
    have tk5 := TupK.of s25
    -- the triple
    refine ⟨_, rfl, a1, _, 0, _, rfl, rfl, tk5.sqT q1, rfl, _, rfl, x1, x2, insd ss, insS s, rfl, bx1.kept tk5, bx2.kept tk5, by omega, fun v6 H6 s6 b6 => ?_⟩
    have s26 := s25.trans s6
    have tk6 := TupK.of s26
    refine ⟨_, rfl, a1, _, 1, _, rfl, rfl, tk6.sqT q1, rfl, _, rfl, _, _, rfl, rfl, ?_⟩
    refine ⟨_, rfl, _, rfl, y2, v5, insS s, _, rfl, by2.kept tk6, b5.kept (TupK.of s6), ?_, fun v7 H7 s7 b7 => ⟨(by show 3 ≤ sizeLine; decide), fun p hp => ?_⟩⟩
    · split <;> omega
    · refine k _ _ ((s26.trans s7).trans (same_new hp)) ?_
      rw [eff_snoc]
      have tp := TupK.of (same_new (o := .tup [v6, .int ((nrem ss : Nat) + (remS s : Nat) : Int), v7]) hp)
      exact ⟨p, v6, v7, rfl, .of upd_same, (b6.kept (TupK.of s7)).kept tp, b7.kept tp⟩
def spSP (K : PySem.W.Frag) : Sp := fun vs H Q _ => ∃ (a : Addr) (s : Stp), vs = [.ref a] ∧ SqT K H a (stepV s) ∧ ∀ v H', Same H H' → EffAt K H' v (effS s) → Q v H'
theorem sc18 : FnScope ["step", "word", "number", "count", "bag", "inner"] ["step"] (defScope (top 18)) := ⟨rfl, rfl, rfl, by decide +kernel, rfl, by decide +kernel, by decide +kernel⟩
theorem cal_sp (D : Def K mg "step_parts" (top 18) ["step"]) (C : Cal P w K mg base 1 "scale" (spScale K)) : Cal P w K mg base 2 "step_parts" (spSP K) := by
  refine D.cal sc18 (fun vs H Q E h => ?_) (fun f cdv A outer s H vs Q E hr h => ?_)
  · obtain ⟨a, s, rfl, _⟩ := h
    rfl
  · obtain ⟨a, s, rfl, hs, k⟩ := h
    refine ⟨_, pss_one (ps_match (pv 0) (pcs_seq (is := [1, 2, 3]) rfl sc18.nd (.cons ⟨_, _, rfl, rfl, rfl⟩ (.cons ⟨_, _, rfl, rfl, rfl⟩ (.cons ⟨_, _, rfl, rfl, rfl⟩ .nil))) (pt_cmpR op_eq (pv 1) pe_str (nomark _))
      (pss_cons (ps_set (i := 4) sc18.nd rfl (.inl rfl) (pe_cl C hr (pa_cons (pe_tupF (pa_cons (pe_tup (pa_cons (pv 2) (pa_cons pe_int pa_nil))) pa_nil)) (pa_cons (pv 3) pa_nil))))
        (pss_one (ps_ret (pe_tup (pa_cons (pv 4) (pa_cons pe_int (pa_cons (pv 4) pa_nil)))))))
      (pcs_seq0 (is := [1, 3]) rfl sc18.nd (.cons ⟨_, _, rfl, rfl, rfl⟩ (.cons ⟨_, _, rfl, rfl, rfl⟩ .nil))
        (pss_one (ps_ret (pe_tup (pa_cons (pe_tupF pa_nil) (pa_cons (pv 3) (pa_cons (pe_tupF pa_nil) pa_nil))))))
        pcs_never))), ?_⟩
    refine ⟨_, rfl, a, _, rfl, hs, ?_⟩
    cases s with
    | ins v =>
      refine ite_yes rfl ⟨_, rfl, rfl, _, rfl, ite_yes (decide_eq_true rfl) ?_⟩
      refine ⟨_, rfl, (by show 2 ≤ sizeLine; decide), fun t ht => ⟨(by show 1 ≤ sizeLine; decide), fun b o hb hc hd => ?_⟩⟩
      have st := same_new (o := .tup [.int v, .int 1]) ht
      have sb := same_new (o := .frz o (.tup [.ref t])) hb
      refine ⟨_, rfl, _, v, rfl, ⟨b, [t], rfl, .inl ⟨o, upd_same, hc, hd⟩, .cons (Same.sqT sb (.of upd_same)) .nil⟩, fun v' H' s3 b3 => ?_⟩
      refine ⟨_, rfl, _, rfl, (by show 3 ≤ sizeLine; decide), fun p hp => ?_⟩
      have sp := same_new (o := .tup [v', .int 0, v']) hp
      have bp := b3.kept (TupK.of sp)
      exact k _ _ (((st.trans sb).trans s3).trans sp) ⟨p, v', v', rfl, .of upd_same, bp, bp⟩
    | rem =>
      refine ite_no (by decide) ⟨a, _, rfl, hs, ite_yes rfl ?_⟩
      refine ⟨Nat.zero_le _, fun b o hb hc hd => ⟨_, rfl, Nat.zero_le _, fun b2 o2 hb2 hc2 hd2 => ⟨(by show 3 ≤ sizeLine; decide), fun p hp => ?_⟩⟩⟩
      have s1 := same_new (o := .frz o (.tup [])) hb
      have s2 := same_new (o := .frz o2 (.tup [])) hb2
      have sp := same_new (o := .tup [.ref b, .int 1, .ref b2]) hp
      exact k _ _ ((s1.trans s2).trans sp) ⟨p, .ref b, .ref b2, rfl, .of upd_same, ⟨b, [], rfl, .inl ⟨o, sp _ _ (s2 _ _ upd_same), hc, hd⟩, .nil⟩, ⟨b2, [], rfl, .inl ⟨o2, sp _ _ upd_same, hc2, hd2⟩, .nil⟩⟩
def spProg (K : PySem.W.Frag) : Sp := fun vs H Q _ => ∃ (a : Addr) (ts : List Addr) (ss : List Stp), vs = [.ref a] ∧ SqT K H a (ts.map V.ref) ∧ Stps K H ts ss ∧ ss.length ≤ 100 ∧ ∀ v H', Same H H' → EffAt K H' v (eff ss) → Q v H'
theorem stps_get {K : PySem.W.Frag} {H : Hp} {ts : List Addr} {ss : List Stp} (h : Stps K H ts ss) {i : Nat} {x : V} (e : (ts.map V.ref)[i]? = some x) : ∃ t s, x = .ref t ∧ ss[i]? = some s ∧ SqT K H t (stepV s) := by
  rw [List.getElem?_map] at e
  obtain ⟨t, ht, rfl⟩ := Option.map_eq_some_iff.mp e
  obtain ⟨s, h1, h2⟩ := paired_at h ht
  exact ⟨t, s, rfl, h1, h2⟩
theorem sc19 : FnScope ["program", "parts", "step"] ["program"] (defScope (top 19)) := ⟨rfl, rfl, rfl, by decide +kernel, rfl, by decide +kernel, by decide +kernel⟩
theorem cal_prog (D : Def K mg "program_parts" (top 19) ["program"]) (T : Txt K mg) (CJ : Cal P w K mg base 3 "join_parts" (spJoin K)) (CS : Cal P w K mg base 2 "step_parts" (spSP K)) : Cal P w K mg base 4 "program_parts" (spProg K) := by
  refine D.cal sc19 (fun vs H Q E h => ?_) (fun f cdv A outer s H vs Q E hr h => ?_)
  · obtain ⟨a, ts, ss, rfl, _⟩ := h
    rfl
  · obtain ⟨a, ts, ss, rfl, ht, hs, hl, k⟩ := h
    obtain ⟨r, ra, rb, hm, hid⟩ := T.idn
    refine ⟨_, pss_cons (ps_set (i := 1) sc19.nd rfl (.inl rfl) (pe_glob (v := .ref r) rfl hm rfl))
      (pss_cons (ps_for PassesOwn.never rfl (pi_tup (pv 0)) (pg_name (i := 2) sc19.nd rfl (.inl rfl))
        (pss_one (ps_set (i := 1) sc19.nd rfl (.inl rfl) (pe_cl CJ hr (pa_cons (pv 1) (pa_cons (pe_cl CS hr (pa_cons (pv 2) pa_nil)) pa_nil))))))
      (pss_one (ps_ret (pv 1)))), ?_⟩
    refine ⟨_, rfl, a, rfl, ⟨_, ht⟩, for_tup (K := K) (a := a) (xs := ts.map V.ref) (fun i σ H' => ∃ (v : V) (o : Option V), σ = [some (.ref a), some v, o] ∧ Same H H' ∧ EffAt K H' v (eff (ss.take i)))
      ⟨.ref r, none, rfl, .refl _, r, .ref ra, .ref rb, rfl, (hid H).1.sq, ⟨ra, [], rfl, (hid H).2.1, .nil⟩, ⟨rb, [], rfl, (hid H).2.2, .nil⟩⟩ (fun i σ H' _ ⟨_, _, _, sm, _⟩ => Same.sqT sm ht) ?_ ?_⟩
    · rintro i x σ H' hi ⟨v, o, rfl, sm, he⟩
      obtain ⟨t, s, rfl, hp, hq⟩ := stps_get (hs.kept (TupK.of sm)) hi
      refine ⟨_, rfl, _, rfl, t, s, rfl, hq, fun v2 H2 s2 e2 => ?_⟩
      refine ⟨v, v2, ss.take i, s, rfl, he.kept (TupK.of s2), e2, ?_, fun v3 H3 s3 e3 => ?_⟩
      · have := List.length_take_le' i ss
        omega
      · refine ⟨v3, _, rfl, (sm.trans s2).trans s3, ?_⟩
        rw [take_snoc hp]
        exact e3
    · rintro σ H' ⟨v, o, rfl, sm, he⟩
      have e : (ts.map V.ref).length = ss.length := by rw [List.length_map, hs.length]
      rw [e, List.take_length] at he
      exact ⟨_, rfl, k _ _ sm he⟩
def spParts (K : PySem.W.Frag) : Sp := fun vs H Q _ => ∃ (a : Addr) (ss : List Stp), vs = [.ref a] ∧ SeqAt K H a ss ∧ ss.length ≤ 100 ∧ ∀ v H', Same H H' → EffAt K H' v (eff ss) → Q v H'
theorem sc25 : FnScope ["sequence"] ["sequence"] (defScope (top 25)) := ⟨rfl, rfl, rfl, by decide +kernel, rfl, by decide +kernel, by decide +kernel⟩
theorem cal_parts (D : Def K mg "parts_of" (top 25) ["sequence"]) (T : Txt K mg) (C : Cal P w K mg base 4 "program_parts" (spProg K)) : Cal P w K mg base 5 "parts_of" (spParts K) := by
  refine D.cal sc25 (fun vs H Q E h => ?_) (fun f cdv A outer s H vs Q E hr h => ?_)
  · obtain ⟨a, ss, rfl, _⟩ := h
    rfl
  · obtain ⟨a, ss, rfl, ⟨ts, h1, h2⟩, hl, k⟩ := h
    refine ⟨_, pss_one (ps_ret (pe_cl C hr (pa_cons (pe_callTy cr_tupF rfl T.tuple boot_tuple (pa_cons (pv 0) pa_nil)) pa_nil))), ?_⟩
    refine ⟨_, rfl, a, _, rfl, h1, fun l o hn hc hd => ⟨l, ts, ss, rfl, ?_, h2.kept (TupK.of (same_new hn)), hl, fun v H' s' e => k v H' ((same_new hn).trans s') e⟩⟩
    exact .inl (.inr ⟨o, upd_same⟩)

/-! ### check_sequence -/
def spElem (K : PySem.W.Frag) : Sp := fun vs H Q _ => ∃ (a : Addr) (s : Stp), vs = [.ref a] ∧ SqT K H a (stepV s) ∧ Q (.bl true) H
theorem sc23 : FnScope ["value"] ["value"] (defScope (top 23)) := ⟨rfl, rfl, rfl, by decide +kernel, rfl, by decide +kernel, by decide +kernel⟩
theorem step_at0 : ∀ s : Stp, ∃ x, atI (stepV s) 0 = some (.str x) ∧ (!decide (V.str x = .str "repeat")) = true
  | .ins v => ⟨"insert", rfl, by decide +kernel⟩
  | .rem => ⟨"remove", rfl, by decide +kernel⟩
theorem step_last : ∀ s : Stp, atI (stepV s) (-1) = some (.int 1)
  | .ins v => rfl
  | .rem => rfl
theorem cal_elem (D : Def K mg "is_elementary" (top 23) ["value"]) (C : Cal P w K mg base 3 "is_step" (spStep K)) : Cal P w K mg base 4 "is_elementary" (spElem K) := by
  refine D.cal sc23 (fun vs H Q E h => ?_) (fun f cdv A outer s H vs Q E hr h => ?_)
  · obtain ⟨a, s, rfl, _⟩ := h
    rfl
  · obtain ⟨a, s, rfl, hs, k⟩ := h
    refine ⟨_, pss_one (ps_ret (pe_and (pe_cl C hr (pa_cons (pv 0) (pa_cons pe_int pa_nil))) (pe_and (pe_cmpR op_ne (pe_ix ix_tup (pv 0) pe_int (fun _ _ => rfl)) pe_str (nomark _))
      (pe_one (pe_cmpR op_eq (pe_ix ix_tup (pv 0) (pe_un un_neg pe_int) (fun _ _ => rfl)) pe_int (nomark _)))))), ?_⟩
    obtain ⟨x, hx, hne⟩ := step_at0 s
    refine ⟨_, rfl, a, s, 1, rfl, hs, _, rfl, iteT ⟨_, rfl, a, _, 0, _, rfl, rfl, hs, hx, rfl, true, by rw [hne], iteT ⟨_, rfl, 1, rfl, a, _, -1, _, rfl, rfl, hs, step_last s, rfl, ?_⟩⟩⟩
    rw [decide_eq_true rfl]
    exact k
def spChk (K : PySem.W.Frag) : Sp := fun vs H Q _ => ∃ (a : Addr) (ss : List Stp), vs = [.ref a] ∧ SeqAt K H a ss ∧ ss.length ≤ 40 ∧ ∀ H', Same H H' → Q .non H'
theorem sc24 : FnScope ["sequence", "index", "step"] ["sequence"] (defScope (top 24)) := ⟨rfl, rfl, rfl, by decide +kernel, rfl, by decide +kernel, by decide +kernel⟩
theorem cal_chk (D : Def K mg "check_sequence" (top 24) ["sequence"]) (T : Txt K mg) (C : Cal P w K mg base 4 "is_elementary" (spElem K)) : Cal P w K mg base 5 "check_sequence" (spChk K) := by
  refine D.cal sc24 (fun vs H Q E h => ?_) (fun f cdv A outer s H vs Q E hr h => ?_)
  · obtain ⟨a, ss, rfl, _⟩ := h
    rfl
  · obtain ⟨a, ss, rfl, hq, hl, k⟩ := h
    obtain ⟨tm, hm⟩ := T.ms
    refine ⟨_, pss_cons (ps_if (PW.pt (pw_or (pt_not (pt_val (pe_callB call_isi_list rfl T.isi boot_isinstance (pa_cons (pv 0) (pa_cons (pe_bltn (v := .ty "list") rfl T.list boot_list rfl) pa_nil)))))
        (pw_or1 (pt_cmpR op_gt (pe_callB call_len_seq rfl T.len PySem.boot_len (pa_cons (pv 0) pa_nil)) (pe_glob (v := .int 40) rfl hm ⟨_, rfl⟩) (nomark _))))) pss_never pss_nil)
      (pss_one (ps_for PassesOwn.never rfl (pi_enum rfl T.enum (pa_cons (pv 0) pa_nil)) (pg_tup (n := 2) rfl (pgs_cons (pg_name (i := 1) sc24.nd rfl (.inl rfl)) (pgs_cons (pg_name (i := 2) sc24.nd rfl (.inl rfl)) pgs_nil)))
        (pss_one (ps_if (pt_not (pt_val (pe_cl C hr (pa_cons (pv 2) pa_nil)))) pss_never pss_nil)))), ?_⟩
    have hd := hq.dp
    obtain ⟨ts, h1, h2⟩ := hq
    have e : (ts.map V.ref).length = ss.length := by rw [List.length_map, h2.length]
    refine ⟨_, rfl, _, _, rfl, hd, _, rfl, ite_no (fun z => nomatch (show false = true from z)) ⟨_, rfl, a, _, rfl, .inl h1, _, _, rfl, rfl, false, congrArg V.bl (decide_eq_false (by omega)), iteF ?_⟩⟩
    · refine ⟨_, rfl, a, _, rfl, h1, for_it walk_enum (fun i σ H' => ∃ o1 o2 : Option V, σ = [some (.ref a), o1, o2] ∧ Same H H') ⟨none, none, rfl, .refl _⟩ (fun i σ H' _ ⟨_, _, _, sm⟩ => sm.seq h1) ?_ ?_⟩
      · rintro i x σ H1 H2 hi ⟨o1, o2, rfl, sm⟩ ⟨t, x1, x2, rfl, ht, rfl, e1, e2⟩
        obtain ⟨q, s, rfl, hp, hq⟩ := stps_get (h2.kept (TupK.of (sm.trans (same_new (o := .tup [x1, x2]) ht)))) e2
        refine ⟨t, _, rfl, .of upd_same, rfl, _, _, rfl, _, _, rfl, rfl, ?_⟩
        exact ⟨_, rfl, q, s, rfl, hq, _, rfl, ite_no (by decide) ⟨_, _, rfl, sm.trans (same_new ht)⟩⟩
      · rintro σ H' ⟨o1, o2, rfl, sm⟩
        exact k _ sm
end
end HX
set_option Elab.async false
set_option linter.all false
set_option maxRecDepth 100000
set_option maxHeartbeats 1000000
/-! exchanged, is_allowed, roles, sort_key. -/
namespace HX
open PySem PySem.Spec PyProof.Rows L2
theorem cut_lo (xs : List V) (k : Nat) : cutV xs none (some (k : Int)) = xs.take k := by
  unfold cutV
  rw [HT.sIx_none, HT.sIx_nat, List.drop_zero, Nat.sub_zero]
  rcases Nat.le_total k xs.length with h | h
  · rw [Nat.min_eq_left h]
  · rw [Nat.min_eq_right h, List.take_of_length_le (Nat.le_refl _), List.take_of_length_le h]
theorem cut_hi (xs : List V) (k : Nat) : cutV xs (some (k : Int)) none = xs.drop k := by
  unfold cutV
  rw [HT.sIx_none, HT.sIx_nat]
  rcases Nat.le_total k xs.length with h | h
  · rw [Nat.min_eq_left h, List.take_of_length_le (by rw [List.length_drop]; exact Nat.le_refl _)]
  · rw [Nat.min_eq_right h, Nat.sub_self, List.take_zero, List.drop_eq_nil_of_le h]
theorem paired_swp {α β : Type} {F : α → β → Prop} : ∀ {l : List α} {m : List β} (k : Nat), Paired F l m → Paired F (swp l k) (swp m k)
  | _, _, _, .nil => .nil
  | _, _, 0, .cons h .nil => .cons h .nil
  | _, _, 0, .cons h (.cons h2 r) => .cons h2 (.cons h r)
  | _, _, k + 1, .cons h r => .cons h (paired_swp k r)
theorem SeqAt.kept {K : PySem.W.Frag} {W : List Addr} {H H' : Hp} {a : Addr} {ss : List Stp} (k : Kept W H H') (n : a ∉ W) (tk : TupK H H') (h : SeqAt K H a ss) : SeqAt K H' a ss := by
  obtain ⟨ts, h1, h2⟩ := h
  exact ⟨ts, k.lst n h1, h2.kept tk⟩
theorem SeqAt.same {K : PySem.W.Frag} {H H' : Hp} {a : Addr} {ss : List Stp} (k : Same H H') (h : SeqAt K H a ss) : SeqAt K H' a ss := by
  obtain ⟨ts, h1, h2⟩ := h
  exact ⟨ts, k.seq h1, h2.kept (TupK.of k)⟩
theorem SeqAt.swp {K : PySem.W.Frag} {H : Hp} {a : Addr} {ts : List Addr} {ss : List Stp} {k : Nat} (hk : k + 1 < ss.length) (h : Stps K H ts ss) (hp : H a = some (.lst (HX.swp (ts.map V.ref) k))) : SeqAt K H a (HX.swp ss k) := by
  refine ⟨HX.swp ts k, .of ?_, paired_swp k h⟩
  rw [swp_map _ (by rw [h.length]; exact hk)]
  exact hp
section
variable {P : Program} {w : World} {K : PySem.W.Frag} {mg : Str → Option Value} {base : Heap}
def spExch (K : PySem.W.Frag) : Sp := fun vs H Q _ => ∃ (a : Addr) (xs : List V) (k : Nat), vs = [.ref a, .int k] ∧ SqL K H a xs ∧ k + 1 < xs.length ∧ xs.length ≤ 1000 ∧ ∀ p H', Same H H' → H p = none → H' p = some (.lst (swp xs k)) → Q (.ref p) H'
theorem sc30 : FnScope ["sequence", "index"] ["sequence", "index"] (defScope (top 30)) := ⟨rfl, rfl, rfl, by decide +kernel, rfl, by decide +kernel, by decide +kernel⟩
theorem cal_exch (D : Def K mg "exchanged" (top 30) ["sequence", "index"]) : Cal P w K mg base 1 "exchanged" (spExch K) := by
  refine D.cal sc30 (fun vs H Q E h => ?_) (fun f cdv A outer s H vs Q E hr h => ?_)
  · obtain ⟨a, xs, k, rfl, _⟩ := h
    rfl
  · obtain ⟨a, xs, k, rfl, hq, hk, hl, q⟩ := h
    refine ⟨_, pss_one (ps_ret (pe_op op_cat (pe_op op_cat (pe_slice sl_list (pv 0) po_none (po_some (pv 1))) (pe_lst (pa_cons (pe_ix ix_list (pv 0) (pe_op op_add (pv 1) pe_int) (fun _ _ => rfl)) (pa_cons (pe_ix ix_list (pv 0) (pv 1) (fun _ _ => rfl)) pa_nil))))
      (pe_slice sl_list (pv 0) (po_some (pe_op op_add (pv 1) pe_int)) po_none))), ?_⟩
    obtain ⟨x, hx⟩ : ∃ x, xs[k]? = some x := ⟨_, List.getElem?_eq_getElem (by omega)⟩
    obtain ⟨y, hy⟩ : ∃ y, xs[k + 1]? = some y := ⟨_, List.getElem?_eq_getElem hk⟩
    have ln : xs.length ≤ sizeLine := le1000 hl
    refine ⟨_, rfl, _, rfl, k, rfl, a, xs, rfl, hq, fun p1 h1 => ?_⟩
    have s1 := same_new (o := .lst (cutV xs none (some (k : Int)))) h1
    refine ⟨_, rfl, _, rfl, _, _, rfl, rfl, a, xs, _, y, rfl, rfl, s1.seq hq, atI_nat (j := k + 1) hy, _, rfl, _, rfl, a, xs, _, x, rfl, rfl, s1.seq hq, atI_nat hx, (by show 2 ≤ sizeLine; decide), fun p2 h2 => ?_⟩
    have s2 := same_new (o := .lst [y, x]) h2
    refine ⟨p1, p2, _, _, rfl, rfl, s2 _ _ upd_same, upd_same, ?_, fun p3 h3 => ?_⟩
    · rw [cut_lo, List.length_take]
      have : [y, x].length = 2 := rfl
      omega
    · have s3 := same_new (o := .lst (cutV xs none (some (k : Int)) ++ [y, x])) h3
      refine ⟨_, rfl, _, rfl, _, _, rfl, rfl, _, rfl, a, xs, rfl, ((s1.trans s2).trans s3).seq hq, fun p4 h4 => ?_⟩
      have s4 := same_new (o := .lst (cutV xs (some ((k : Int) + 2)) none)) h4
      refine ⟨p3, p4, _, _, rfl, rfl, s4 _ _ upd_same, upd_same, ?_, fun p5 h5 => ?_⟩
      · have := cutV_length xs (some ((k : Int) + 2)) none
        rw [cut_lo, List.length_append, List.length_take]
        have e2 : [y, x].length = 2 := rfl
        have hh := cut_hi xs (k + 2)
        have e3 : (((k + 2 : Nat) : Int)) = (k : Int) + 2 := rfl
        rw [e3] at hh
        have e4 : (cutV xs (some ((k : Int) + 2)) none).length = xs.length - (k + 2) := by
          rw [hh, List.length_drop]
        show min k xs.length + [y, x].length + (cutV xs (some ((k : Int) + 2)) none).length ≤ _
        omega
      · have s5 := same_new (o := .lst (swp xs k)) h5
        have ss := ((((s1.trans s2).trans s3).trans s4))
        have e : cutV xs none (some (k : Int)) ++ [y, x] ++ cutV xs (some ((k : Int) + 2)) none = swp xs k := by
          have hh := cut_hi xs (k + 2)
          have e3 : (((k + 2 : Nat) : Int)) = (k : Int) + 2 := rfl
          rw [e3] at hh
          rw [cut_lo, hh]
          exact swp_cut hx hy
        show Q (.ref p5) (upd _ p5 (.lst (cutV xs none (some (k : Int)) ++ [y, x] ++ cutV xs (some ((k : Int) + 2)) none)))
        rw [e]
        exact q p5 _ (ss.trans s5) (ss.free h5) upd_same

def spAllow (K : PySem.W.Frag) : Sp := fun vs H Q _ => ∃ (a : Addr) (ss : List Stp) (k : Nat), vs = [.ref a, .int k] ∧ SeqAt K H a ss ∧ Ok ss k ∧ ss.length ≤ 100 ∧ ∀ H', Same H H' → Q (.bl true) H'
theorem sc31 : FnScope ["sequence", "index"] ["sequence", "index"] (defScope (top 31)) := ⟨rfl, rfl, rfl, by decide +kernel, rfl, by decide +kernel, by decide +kernel⟩
theorem Ok.eff {ss : List Stp} {k : Nat} (h : Ok ss k) : eff (HX.swp ss k) = HX.eff ss := Path.eff (ks := [k]) ⟨h, rfl⟩
theorem cal_allow (D : Def K mg "is_allowed" (top 31) ["sequence", "index"]) (CP : Cal P w K mg base 5 "parts_of" (spParts K)) (CE : Cal P w K mg base 1 "exchanged" (spExch K)) : Cal P w K mg base 6 "is_allowed" (spAllow K) := by
  refine D.cal sc31 (fun vs H Q E h => ?_) (fun f cdv A outer s H vs Q E hr h => ?_)
  · obtain ⟨a, ss, k, rfl, _⟩ := h
    rfl
  · obtain ⟨a, ss, k, rfl, hs, ok, hl, q⟩ := h
    refine ⟨_, pss_cons (ps_if (pt_cmpR (op_eqP hr.units) (pe_ix ix_list (pv 0) (pv 1) (fun _ _ => rfl)) (pe_ix ix_list (pv 0) (pe_op op_add (pv 1) pe_int) (fun _ _ => rfl)) (nomark _)) pss_never pss_nil)
      (pss_one (ps_ret (pe_cmpR (op_eqP hr.units) (pe_cl CP hr (pa_cons (pe_cl CE hr (pa_cons (pv 0) (pa_cons (pv 1) pa_nil))) pa_nil)) (pe_cl CP hr (pa_cons (pv 0) pa_nil)) (nomark _)))), ?_⟩
    have hs0 := hs
    obtain ⟨ts, h1, h2⟩ := hs
    have lt : ts.length = ss.length := h2.length
    have okl := ok.lt
    obtain ⟨x, hx⟩ : ∃ x, ts[k]? = some x := ⟨_, List.getElem?_eq_getElem (by omega)⟩
    obtain ⟨y, hy⟩ : ∃ y, ts[k + 1]? = some y := ⟨_, List.getElem?_eq_getElem (by omega)⟩
    obtain ⟨sx, gx, qx⟩ := paired_at h2 hx
    obtain ⟨sy, gy, qy⟩ := paired_at h2 hy
    have hx' : (ts.map V.ref)[k]? = some (.ref x) := by
      rw [List.getElem?_map, hx]
      rfl
    have hy' : (ts.map V.ref)[k + 1]? = some (.ref y) := by
      rw [List.getElem?_map, hy]
      rfl
    have ne : PyData.eqv (stepD sx) (stepD sy) = false := by
      rw [eqv_dec eqv_stepD]
      refine decide_eq_false fun e => ok.ne ?_
      rw [gx, gy, e]
    refine ⟨_, rfl, _, rfl, a, _, _, _, rfl, rfl, h1, atI_nat hx', _, rfl, _, rfl, _, _, rfl, rfl, a, _, _, _, rfl, rfl, h1, atI_nat (j := k + 1) hy', _, _, stp_dp qx, stp_dp qy, plain_stepD _, plain_stepD _, Nat.le_trans (depth_stepD _) (by decide), false, by rw [ne], iteF ?_⟩
    refine ⟨_, rfl, _, rfl, a, _, k, rfl, h1, by rw [List.length_map]; omega, by rw [List.length_map]; omega, fun p H1 s1 hp hP => ?_⟩
    refine ⟨p, swp ss k, rfl, .swp okl (h2.kept (TupK.of s1)) hP, by rw [swp_len okl]; exact hl, fun v1 H2 s2 e1 => ?_⟩
    have s12 := s1.trans s2
    refine ⟨_, rfl, a, ss, rfl, .same s12 hs0, hl, fun v2 H3 s3 e2 => ?_⟩
    refine ⟨_, _, (e1.kept (TupK.of s3)).dp, e2.dp, plain_effD _, plain_effD _, Nat.le_trans (depth_effD _) (by decide), ?_⟩
    rw [ok.eff, eqv_dec eqv_effD, decide_eq_true rfl]
    exact q _ (s12.trans s3)

def spKey (K : PySem.W.Frag) : Sp := fun vs H Q _ => ∃ (r : Int) (t : Addr) (s : Stp), vs = [.int r, .ref t] ∧ SqT K H t (stepV s) ∧ ∀ p H', Same H H' → SqT K H' p [.int r, .int (num s)] → Q (.ref p) H'
theorem sc33 : FnScope ["role", "step"] ["role", "step"] (defScope (top 33)) := ⟨rfl, rfl, rfl, by decide +kernel, rfl, by decide +kernel, by decide +kernel⟩
theorem cal_key (D : Def K mg "sort_key" (top 33) ["role", "step"]) (T : Txt K mg) : Cal P w K mg base 1 "sort_key" (spKey K) := by
  refine D.cal sc33 (fun vs H Q E h => ?_) (fun f cdv A outer s H vs Q E hr h => ?_)
  · obtain ⟨r, t, s, rfl, _⟩ := h
    rfl
  · obtain ⟨r, t, s, rfl, hs, k⟩ := h
    obtain ⟨rm, hm, hR⟩ := T.rm
    refine ⟨_, pss_one (ps_ret (pe_tup (pa_cons (pv 0) (pa_cons (pe_ifExp (pt_cmpR (op_eqP hr.units) (pv 1) (pe_glob (v := .ref rm) rfl hm rfl) (nomark _)) pe_int (pe_ix ix_tup (pv 1) pe_int (fun _ _ => rfl))) pa_nil)))), ?_⟩
    refine ⟨_, rfl, _, rfl, _, _, stp_dp hs, stp_dp (s := .rem) (hR H).sq, plain_stepD _, plain_stepD _, Nat.le_trans (depth_stepD _) (by decide), _, rfl, ?_⟩
    rw [eqv_dec eqv_stepD]
    cases s with
    | ins v =>
      rw [decide_eq_false (fun e => nomatch e)]
      refine iteF ⟨_, rfl, t, _, 1, _, rfl, rfl, hs, rfl, (by show 2 ≤ sizeLine; decide), fun p hp => ?_⟩
      exact k p _ (same_new hp) (.of upd_same)
    | rem =>
      rw [decide_eq_true rfl]
      refine iteT ⟨(by show 2 ≤ sizeLine; decide), fun p hp => ?_⟩
      exact k p _ (same_new hp) (.of upd_same)
end
end HX
set_option Elab.async false
set_option linter.all false
set_option maxRecDepth 100000
set_option maxHeartbeats 1000000
/-! roles. -/
namespace HX
open PySem PySem.Spec PyProof.Rows L2
/-- a present number with its place -/
def prI (pr : List (Int × Nat)) : List (Int × Int) := pr.map fun q => (q.1, (q.2 : Int))
theorem prI_get {pr : List (Int × Nat)} {p : Int × Int} (h : p ∈ prI pr) : ∃ q ∈ pr, p = (q.1, (q.2 : Int)) := by
  obtain ⟨q, h1, h2⟩ := List.mem_map.mp h
  exact ⟨q, h1, h2.symm⟩
theorem pr_inj {a b : Int × Nat} (h : (a.1, (a.2 : Int)) = (b.1, (b.2 : Int))) : a = b := by
  have h1 := congrArg Prod.fst h
  have h2 := congrArg Prod.snd h
  refine Prod.ext h1 ?_
  have h2 : (a.2 : Int) = (b.2 : Int) := h2
  omega
/-- where it stands first, and what is left without it -/
theorem pr_find : ∀ {pr : List (Int × Nat)} {q : Int × Nat}, q ∈ pr → ∃ j, (prI pr)[j]? = some (q.1, (q.2 : Int)) ∧ (∀ m, m < j → (prI pr)[m]? ≠ some (q.1, (q.2 : Int))) ∧ (prI pr).eraseIdx j = prI (pr.erase q)
  | [], _, h => by cases h
  | x :: r, q, h => by
    by_cases e : x = q
    · refine ⟨0, by rw [← e]; rfl, fun m hm => absurd hm (Nat.not_lt_zero _), ?_⟩
      rw [e, List.erase_cons_head]
      rfl
    · have h' : q ∈ r := (List.mem_cons.mp h).resolve_left fun z => e z.symm
      obtain ⟨j, h1, h2, h3⟩ := pr_find h'
      refine ⟨j + 1, h1, fun m hm => ?_, ?_⟩
      · cases m with
        | zero =>
          intro z
          have z : (x.1, (x.2 : Int)) = (q.1, (q.2 : Int)) := Option.some.inj z
          exact e (pr_inj z)
        | succ m => exact h2 m (by omega)
      · rw [List.erase_cons_tail (by rw [beq_iff_eq]; exact e)]
        show (x.1, (x.2 : Int)) :: (prI r).eraseIdx j = (x.1, (x.2 : Int)) :: prI (r.erase q)
        rw [h3]
theorem paired_erase {α β : Type} {F : α → β → Prop} : ∀ {l : List α} {m : List β} (k : Nat), Paired F l m → Paired F (l.eraseIdx k) (m.eraseIdx k)
  | _, _, _, .nil => .nil
  | _, _, 0, .cons h r => r
  | _, _, k + 1, .cons h r => .cons h (paired_erase k r)
theorem ri_pr_len {ss : List Stp} {rs : List Int} {pr : List (Int × Nat)} (h : RI ss rs pr) : pr.length ≤ ss.length := by
  have key : ∀ (l : List Row) (k : Nat), (pres k l).length ≤ l.length := by
    intro l
    induction l with
    | nil => exact fun _ => Nat.le_refl _
    | cons x l ih =>
      intro k
      have h1 := ih (k + 1)
      obtain ⟨r, s⟩ := x
      cases s with
      | rem =>
        show (pres (k + 1) l).length ≤ l.length + 1
        omega
      | ins v =>
        show (if r = 2 then (v, k) :: pres (k + 1) l else pres (k + 1) l).length ≤ l.length + 1
        split
        · rw [List.length_cons]
          omega
        · omega
  rw [h.pr]
  have := key (rs.zip ss) 0
  rw [List.length_zip, h.len, Nat.min_self] at this
  exact this
section
variable {P : Program} {w : World} {K : PySem.W.Frag} {mg : Str → Option Value} {base : Heap}
def spRoles (K : PySem.W.Frag) : Sp := fun vs H Q _ => ∃ (a : Addr) (ss : List Stp), vs = [.ref a] ∧ SeqAt K H a ss ∧ ss.length ≤ 100 ∧ ∀ F H' rs pr, Same H H' → H F = none → H' F = some (.lst (rs.map V.int)) → RI ss rs pr → Q (.ref F) H'
theorem sc32 : FnScope ["sequence", "found", "present", "index", "step", "number", "place"] ["sequence"] (defScope (top 32)) := ⟨rfl, rfl, rfl, by decide +kernel, rfl, by decide +kernel, by decide +kernel⟩
theorem cal_roles (D : Def K mg "roles" (top 32) ["sequence"]) (T : Txt K mg) : Cal P w K mg base 1 "roles" (spRoles K) := by
  refine D.cal sc32 (fun vs H Q E h => ?_) (fun f cdv A outer s H vs Q E hr h => ?_)
  · obtain ⟨a, ss, rfl, _⟩ := h
    rfl
  · obtain ⟨a, ss, rfl, hq, hl, k⟩ := h
    obtain ⟨rm, hm, hR⟩ := T.rm
    obtain ⟨t0, hco⟩ := T.co
    obtain ⟨t1, hre⟩ := T.re
    obtain ⟨t2, hsu⟩ := T.su
    have hu := hr.units
    refine ⟨_, pss_cons (ps_par (i := 1) (j := 2) rfl sc32.nd rfl rfl (by decide) rfl rfl (pa_cons (pe_lst pa_nil) (pa_cons (pe_lst pa_nil) pa_nil)) rfl)
      (pss_cons (ps_for PassesOwn.never rfl (pi_enum rfl T.enum (pa_cons (pv 0) pa_nil)) (pg_tup (n := 2) rfl (pgs_cons (pg_name (i := 3) sc32.nd rfl (.inl rfl)) (pgs_cons (pg_name (i := 4) sc32.nd rfl (.inl rfl)) pgs_nil)))
        (pss_one (ps_if (pt_cmpR (op_eqP hu) (pv 4) (pe_glob (v := .ref rm) rfl hm rfl) (nomark _))
          (pss_cons (ps_expr (pe_bm PySem.F.plainAttrs_list PySem.F.slot_list_append PySem.F.type_list_append mt_append (pv 1) (pa_cons (pe_glob (v := .int 1) rfl hre ⟨_, rfl⟩) pa_nil)))
          (pss_one (ps_if (pt_cmpR (op_neP hu) (pv 2) (pe_lst pa_nil) (nomark _))
            (pss_cons (ps_asg (pe_callB (cr_minP rfl hu) rfl T.min boot_min (pa_cons (pv 2) pa_nil)) (pg_tup (n := 2) rfl (pgs_cons (pg_name (i := 5) sc32.nd rfl (.inl rfl)) (pgs_cons (pg_name (i := 6) sc32.nd rfl (.inl rfl)) pgs_nil))))
            (pss_cons (ps_expr (pe_bm PySem.F.plainAttrs_list PySem.F.slot_list_remove PySem.F.type_list_remove (mt_removeP hu) (pv 2) (pa_cons (pe_tup (pa_cons (pv 5) (pa_cons (pv 6) pa_nil))) pa_nil)))
            (pss_one (ps_asg (pe_glob (v := .int 0) rfl hco ⟨_, rfl⟩) (pg_sub (pv 1) (pv 6) set_list))))) pss_nil)))
          (pss_cons (ps_expr (pe_bm PySem.F.plainAttrs_list PySem.F.slot_list_append PySem.F.type_list_append mt_append (pv 1) (pa_cons (pe_glob (v := .int 2) rfl hsu ⟨_, rfl⟩) pa_nil)))
            (pss_one (ps_expr (pe_bm PySem.F.plainAttrs_list PySem.F.slot_list_append PySem.F.type_list_append mt_append (pv 2) (pa_cons (pe_tup (pa_cons (pe_ix ix_tup (pv 4) pe_int (fun _ _ => rfl)) (pa_cons (pv 3) pa_nil))) pa_nil))))))))
      (pss_one (ps_ret (pv 1)))), ?_⟩
    obtain ⟨ts, h1, h2⟩ := hq
    have lt : (ts.map V.ref).length = ss.length := by rw [List.length_map, h2.length]
    refine ⟨Nat.zero_le _, fun F hF => ⟨Nat.zero_le _, fun G hG => ⟨_, _, rfl, ?_⟩⟩⟩
    have sF := same_new (o := .lst []) hF
    have sG := same_new (o := .lst []) hG
    have nFG : F ≠ G := ne_of_none upd_same hG
    have G0 : H G = none := sF.free hG
    refine ⟨_, rfl, a, _, rfl, (sF.trans sG).seq h1, for_it walk_enum (fun i σ H' => ∃ (o1 o2 o3 o4 : Option V) (rs : List Int) (pr : List (Int × Nat)) (us : List Addr), σ = [some (.ref a), some (.ref F), some (.ref G), o1, o2, o3, o4] ∧ Same H H' ∧ H' F = some (.lst (rs.map V.int)) ∧ H' G = some (.lst (us.map V.ref)) ∧ Prs K H' us (prI pr) ∧ RI (ss.take i) rs pr)
      ⟨none, none, none, none, [], [], [], rfl, sF.trans sG, sG _ _ upd_same, upd_same, .nil, .nil⟩ (fun i σ H' _ ⟨_, _, _, _, _, _, _, _, sm, _⟩ => sm.seq h1) ?_ ?_⟩
    · rintro i x σ H1 H2 hi ⟨o1, o2, o3, o4, rs, pr, us, rfl, sm, hrs, hus, hpr, ri⟩ ⟨t, x1, x2, rfl, ht, rfl, e1, e2⟩
      have e1 : V.int (i : Nat) = x1 := Option.some.inj e1
      subst e1
      obtain ⟨q, s, rfl, hp, hq⟩ := stps_get (h2.kept (TupK.of sm)) e2
      have sT := same_new (o := .tup [.int (i : Nat), .ref q]) ht
      have hq' := Same.sqT sT hq
      have hrs' := sT _ _ hrs
      have hus' := sT _ _ hus
      have hpr' := hpr.kept (TupK.of sT)
      have sm' := sm.trans sT
      have li := ri.len
      have li2 := ri_pr_len ri
      have lti : (ss.take i).length = i := by
        rw [List.length_take]
        omega
      have lrs : rs.length = i := by omega
      have lus : us.length = pr.length := by
        have := hpr.length
        rw [this]
        exact List.length_map _
      refine ⟨t, _, rfl, .of upd_same, rfl, _, _, rfl, _, _, rfl, rfl, ?_⟩
      refine ⟨_, rfl, _, _, stp_dp hq', stp_dp (s := .rem) (hR _).sq, plain_stepD _, plain_stepD _, Nat.le_trans (depth_stepD _) (by decide), _, rfl, ?_⟩
      rw [eqv_dec eqv_stepD]
      cases s with
      | ins v =>
        rw [decide_eq_false (fun e => nomatch e)]
        refine iteF ⟨_, rfl, .inl ⟨rfl, _, SqL.of hrs'⟩, F, _, _, rfl, rfl, hrs', lt1000 (by rw [List.length_map]; omega), ?_⟩
        have k1 := tupk_set (zs := rs.map V.int ++ [.int 2]) hrs'
        have hus1 : upd (upd H1 t (.tup [.int (i : Nat), .ref q])) F (.lst (rs.map V.int ++ [.int 2])) G = some (.lst (us.map V.ref)) := by
          rw [upd_ne nFG.symm]
          exact hus'
        refine ⟨_, rfl, .inl ⟨rfl, _, SqL.of hus1⟩, _, rfl, q, _, 1, _, rfl, rfl, k1.sqT hq', rfl, _, rfl, (by show 2 ≤ sizeLine; decide), fun p hp2 => ?_⟩
        have sp := same_new (o := .tup [.int v, .int (i : Nat)]) hp2
        refine ⟨G, _, _, rfl, rfl, sp _ _ hus1, lt1000 (by rw [List.length_map]; omega), ?_⟩
        have kk : TupK (upd H1 t (.tup [.int (i : Nat), .ref q])) _ := k1.trans (tupk_app (ys := [.int v, .int (i : Nat)]) (zs := us.map V.ref ++ [.ref p]) hus1 hp2)
        have nFp : F ≠ p := ne_of_none upd_same hp2
        refine ⟨_, _, _, _, rs ++ [2], pr ++ [(v, i)], us ++ [p], rfl, Same.over ((Same.over sm' hF).trans sp) G0, ?_, ?_, ?_, ?_⟩
        · rw [upd_ne nFG, upd_ne nFp, upd_same, List.map_append]
          rfl
        · rw [upd_same, List.map_append]
          rfl
        · have e : prI (pr ++ [(v, i)]) = prI pr ++ [(v, (i : Int))] := List.map_append
          rw [e]
          refine paired_snoc (hpr'.kept kk) (.of ?_)
          rw [upd_ne (ne_of_none (sp _ _ hus1 |> fun _ => hus1) hp2).symm, upd_same]
        · rw [take_snoc hp]
          have r2 := ri.ins v
          rw [lti] at r2
          exact r2
      | rem =>
        rw [decide_eq_true rfl]
        refine iteT ⟨_, rfl, .inl ⟨rfl, _, SqL.of hrs'⟩, F, _, _, rfl, rfl, hrs', lt1000 (by rw [List.length_map]; omega), ?_⟩
        have k1 := tupk_set (zs := rs.map V.int ++ [.int 1]) hrs'
        have hus1 : upd (upd H1 t (.tup [.int (i : Nat), .ref q])) F (.lst (rs.map V.int ++ [.int 1])) G = some (.lst (us.map V.ref)) := by
          rw [upd_ne nFG.symm]
          exact hus'
        have hpr1 := hpr'.kept k1
        have sm1 : Same H _ := Same.over (o := .lst (rs.map V.int ++ [.int 1])) sm' hF
        have hF1 : upd (upd H1 t (.tup [.int (i : Nat), .ref q])) F (.lst (rs.map V.int ++ [.int 1])) F = some (.lst ((rs ++ [1]).map V.int)) := by
          rw [upd_same, List.map_append]
          rfl
        generalize upd (upd H1 t (.tup [.int (i : Nat), .ref q])) F (.lst (rs.map V.int ++ [.int 1])) = H3 at *
        refine ⟨_, rfl, Nat.zero_le _, fun b hb => ?_⟩
        have sb := same_new (o := .lst []) hb
        refine ⟨.list ((prI pr).map pD), .list [], .lst (sb.seq (.of hus1)) (hpr1.kept (TupK.of sb)).dps, .lst (.of upd_same) .nil, plainAll_map pD plain_pD _, rfl, ?_, _, rfl, ?_⟩
        · have : PyData.depthAll ((prI pr).map pD) ≤ 1 := depthAll_map pD 1 depth_pD _
          show PyData.depthAll ((prI pr).map pD) + 1 ≤ 60
          omega
        · have sm2 := sm1.trans sb
          have hus2 := sb _ _ hus1
          have hpr2 := hpr1.kept (TupK.of sb)
          have hF2 := sb _ _ hF1
          generalize upd H3 b (.lst []) = H4 at *
          cases pr with
          | nil =>
            refine iteF ⟨_, _, _, _, rs ++ [1], [], us, rfl, sm2, hF2, hus2, hpr2, ?_⟩
            rw [take_snoc hp]
            exact ri.rem0
          | cons p0 pr0 =>
            refine iteT ⟨_, rfl, G, us, _, rfl, .of hus2, hpr2, (fun z => nomatch z), fun tt pp htt hpp hqq hmin => ?_⟩
            obtain ⟨qq, hqm, rfl⟩ := prI_get hpp
            obtain ⟨j, f1, f2, f3⟩ := pr_find hqm
            have hle : ∀ z ∈ p0 :: pr0, lexLe (qq.1, qq.2) z := fun z hz => by
              have := hmin _ (List.mem_map.mpr ⟨z, hz, rfl⟩)
              have this : qq.1 < z.1 ∨ (qq.1 = z.1 ∧ (qq.2 : Int) ≤ (z.2 : Int)) := this
              rcases this with c | c
              · exact .inl c
              · exact .inr ⟨c.1, by omega⟩
            obtain ⟨r2, hlt⟩ := ri.rem1 hqm hle
            refine ⟨tt, _, rfl, hqq, rfl, _, _, rfl, _, _, rfl, rfl, ?_⟩
            refine ⟨_, rfl, .inl ⟨rfl, _, SqL.of hus2⟩, _, rfl, _, rfl, (by show 2 ≤ sizeLine; decide), fun p hp2 => ?_⟩
            have sp := same_new (o := .tup [.int qq.1, .int (qq.2 : Int)]) hp2
            refine ⟨G, us, _, p, _, j, rfl, rfl, sp _ _ hus2, hpr2.kept (TupK.of sp), .of upd_same, f1, f2, ?_⟩
            have nGp : G ≠ p := ne_of_none hus2 hp2
            have nFp : F ≠ p := ne_of_none hF2 hp2
            have kE := (TupK.of sp).trans (tupk_set (zs := (us.eraseIdx j).map V.ref) (sp _ _ hus2))
            have hF3 : upd (upd H4 p (.tup [.int qq.1, .int (qq.2 : Int)])) G (.lst ((us.eraseIdx j).map V.ref)) F = some (.lst ((rs ++ [1]).map V.int)) := by
              rw [upd_ne nFG]
              exact sp _ _ hF2
            refine ⟨_, rfl, _, rfl, F, _, (qq.2 : Int), qq.2, rfl, rfl, hF3, ?_, ?_⟩
            · unfold ixN
              rw [if_pos (by omega), if_pos (by rw [List.length_map, List.length_append]; have : [(1 : Int)].length = 1 := rfl; omega)]
              rfl
            · have kS := kE.trans (tupk_set (zs := ((rs ++ [1]).map V.int).set qq.2 (.int 0)) hF3)
              refine ⟨_, _, _, _, (rs ++ [1]).set qq.2 0, (p0 :: pr0).erase qq, us.eraseIdx j, rfl, Same.over (Same.over (sm2.trans sp) G0) hF, ?_, ?_, ?_, ?_⟩
              · rw [upd_same, List.map_set]
              · rw [upd_ne nFG.symm, upd_same]
              · rw [← f3]
                exact paired_erase j (hpr2.kept kS)
              · rw [take_snoc hp]
                exact r2
    · rintro σ H' ⟨o1, o2, o3, o4, rs, pr, us, rfl, sm, hrs, hus, hpr, ri⟩
      rw [lt, List.take_length] at ri
      exact ⟨_, rfl, k F H' rs pr sm hF hrs ri⟩
end
end HX
set_option Elab.async false
set_option linter.all false
set_option maxRecDepth 100000
set_option maxHeartbeats 1000000
/-! Lambdas of one parameter: made, handed on, called. -/
namespace HX
open PySem PySem.Spec PyProof.Rows L2 LamX
/-- a function object that a lambda made; nothing captured -/
def LamO (f : Addr) (q : Str) (params : Arguments) (body : Expr) (scope : Scope) (c' : Addr) : HO := .ext fun h => ∃ pm ctv : Value, h.get? f = some (PySem.W.kla_obj "<lambda>" q params body scope [] pm c' ctv)
theorem lamO_ne {f : Addr} {q : Str} {params : Arguments} {body : Expr} {scope : Scope} {c' : Addr} (ps : Array Value) : LamO f q params body scope c' ≠ .tbl ps := fun z => by
  unfold LamO at z
  cases z
/-- all stays, but tables may grow -/
def ExT (H H' : Hp) : Prop := ExtN H H' ∧ ∀ b ps, H b = some (.tbl ps) → ∃ ps', H' b = some (.tbl ps')
theorem ExT.refl (H : Hp) : ExT H H := ⟨ExtN.refl H, fun _ ps h => ⟨ps, h⟩⟩
theorem ExT.of {H H' : Hp} (s : Same H H') : ExT H H' := ⟨ExtN.of s, fun b ps h => ⟨ps, s b _ h⟩⟩
theorem ExT.trans {H H1 H2 : Hp} (a : ExT H H1) (b : ExT H1 H2) : ExT H H2 := ⟨a.1.trans b.1, fun c ps h => by
  obtain ⟨ps1, h1⟩ := a.2 c ps h
  exact b.2 c ps1 h1⟩
theorem ExT.free {H H' : Hp} (a : ExT H H') {b : Addr} (h : H' b = none) : H b = none := by
  cases z : H b with
  | none => rfl
  | some o =>
    exfalso
    by_cases ho : ∃ ps, o = .tbl ps
    · obtain ⟨ps, rfl⟩ := ho
      obtain ⟨ps', e⟩ := a.2 b ps z
      rw [h] at e
      cases e
    · have e := a.1 b o z fun ps e => ho ⟨ps, e⟩
      rw [h] at e
      cases e
/-- what may be called there, with what promise, as long as G holds -/
structure RunL (P : Program) (w : World) (K : PySem.W.Frag) (mg : Str → Option Value) (base : Heap) (k : Nat) (f : Addr) (G : Hp → Prop) (sp : Sp) : Prop where
  fn : ∀ (s : Shared) (H : Hp), HOk P w H s.heap → G H → PySem.W.FnAt f s.heap
  run : ∀ (A : Around) (outer : List Env) (s : Shared) (H : Hp) (us : List Value) (vs : List V) (Q : VK), Room k A → Env0 P w K mg base A outer s H → Vals vs us → G H → sp vs H Q E0 → codeAny (model P w) A (.call (.ref f) ⟨us, []⟩) (CR CX0 outer P w H s Q E0) s
def LamG (f : Addr) (q : Str) (params : Arguments) (body : Expr) (scope : Scope) (c' : Addr) (H : Hp) : Prop := H f = some (LamO f q params body scope c') ∧ H c' = some (CodeO c' q)
theorem LamG.ext {f : Addr} {q : Str} {params : Arguments} {body : Expr} {scope : Scope} {c' : Addr} {H H' : Hp} (g : LamG f q params body scope c' H) (e : ExtN H H') : LamG f q params body scope c' H' := ⟨e _ _ g.1 lamO_ne, e _ _ g.2 codeO_ne⟩
section
variable {P : Program} {w : World} {K : PySem.W.Frag} {mg : Str → Option Value} {base : Heap}
theorem lam_run {q : Str} {params : Arguments} {body : Expr} {scope : Scope} {N ps : List Str} {k : Nat} {f c' : Addr} {sp : Sp} (S : FnScope N ps scope)
    (hbind : ∀ (pm cv ctv : Value) (us : List Value), us.length = ps.length → bindArgs (PySem.W.kla_fn "<lambda>" q params body scope [] pm cv ctv) ⟨us, []⟩ = pure (ps.zip us)) (len : ∀ vs H Q E, sp vs H Q E → vs.length = ps.length)
    (hbody : ∀ (A : Around) (outer : List Env) (s : Shared) (H : Hp) (vs : List V) (Q : VK) (E : XK), Room k (A.deeper (envOfC q scope s.heap.objs.size f (.ref c'))) → sp vs H Q E →
      ∃ t, PE (cxOf CX0 P w K mg base N q scope f (.ref c') A outer s H E).nox body t ∧ t (start N vs) H Q) : RunL P w K mg base (k + 1) f (LamG f q params body scope c') sp := by
  refine ⟨fun s H hok g => ?_, fun A outer s H us vs Q hr e0 r g hsp => ?_⟩
  · obtain ⟨⟨pm, ctv, e⟩, _⟩ := hok f _ g.1
    exact ⟨_, _, _, _, e⟩
  · have hl := len _ _ _ _ hsp
    obtain ⟨⟨pm, ctv, e⟩, _⟩ := e0.hok f _ g.1
    obtain ⟨⟨oc, vs2, t2, hoc, hdc, hvc⟩, _, _⟩ := e0.hok c' _ g.2
    have lim : s.heap.NoLimit := e0.mod.nolimit.keeps fun b o e => (e0.bs b o e).1
    have hkind : ∀ y ∈ ps.zip us, scope.names.lookup y.1 = some .local ∨ (scope.names.lookup y.1 = some .cell ∧ ((cellsFrom (s.heap.objs.size + 1) scope.names []).lookup y.1).isSome = true) := fun ⟨n, v⟩ hy => by
      rcases S.par n (List.of_mem_zip hy).1 with q | q
      · exact .inl q
      · exact .inr ⟨q, PySem.W.cellsFrom_some _ _ _ (.inl q)⟩
    refine PySem.W.kla_callFunE hr.depth e rfl S.co S.gen rfl ⟨c', oc, vs2, t2, rfl, hoc, hdc, hvc⟩ ?_
    rw [hbind _ _ _ _ (by rw [← r.length]; exact hl)]
    refine wpAny_pure (wpAny_newFunctionEnv_cells S.kind hkind fun env he s1 x => ?_)
    subst he
    refine ⟨lim.keeps x.toInCall.keep, ?_⟩
    obtain ⟨t, ht, hq⟩ := hbody A outer s H vs Q E0 (hr.deeper _) hsp
    have I : L2.Inv (cxOf CX0 P w K mg base N q scope f (.ref c') A outer s H E0) [] (start N vs) H s1 := inv_start S hr.hd e0 hl r x
    refine PySem.W.kla_codeExpr (wpAny_mono (ht.nox.run [] s1 (start N vs) H Q I hq) (fun v s' hs => ?_) fun e s' hs => hs)
    obtain ⟨v', H', J, rv, q'⟩ := hs
    exact ⟨v', H', J.os, J.bare, J.base, J.hok, rv, q'⟩
end
/-- a(e): the slot i holds f -/
def tCallF (i : Nat) (f : Addr) (G : Hp → Prop) (sp : Sp) (t : TA) : TE := fun σ H Q => σ[i]? = some (some (.ref f)) ∧ G H ∧ t σ H fun vs H1 => G H1 ∧ sp vs H1 Q E0
section
variable {X : Cx}
theorem pe_callF {k j i : Nat} {f : Addr} {G : Hp → Prop} {sp : Sp} {x : Str} {e : Expr} {es : List Expr} {t : TA} {p pos : Pos} (F : RunL X.prog X.w X.K X.mg X.base k f G sp) (hr : Room j X.A) (ha : PA X (e :: es) t) (hN : X.N[i]? = some x := by rfl)
    (hv : Vis X.env.scope x := by first | exact Or.inl rfl | exact Or.inr (Or.inl rfl) | exact Or.inr (Or.inr rfl)) (hkj : k ≤ j := by decide) (hdb : (x == ("__debug__" : Str)) = false := by decide) (hcd : (x == ("__classdict__" : Str)) = false := by decide)
    (he : starEach (e :: es) X.env = (false, eval e X.env) :: starEach es X.env := by rfl) (hpl : (backTo pos (starEach es X.env)).any (·.1) = false := by rfl) : PE X (.Call (.Name x p) (e :: es) [] pos) (tCallF i f G sp t) := by
  refine ⟨fun pins s σ H Q I h => ?_⟩
  obtain ⟨hs, hg, ht⟩ := h
  refine wpAny_Call_Name_kw (thn ((pe_var (pos := p) (i := i) hN hv hdb hcd).run pins s σ H (fun v H1 => v = .ref f ∧ H1 = H) I ⟨.ref f, hs, rfl, rfl⟩) fun u s1 ⟨v, H1, I1, r1, q1⟩ => ?_)
  obtain ⟨rfl, rfl⟩ := q1
  cases r1
  refine PySem.W.callWith_F (F.fn s1 _ I1.hok hg) (thn (ha.run pos pins s1 σ _ _ I1 ht) fun us s2 ⟨vs, H2, I2, r, q⟩ => ⟨F.fn s2 _ I2.hok q.1, ?_⟩) he hpl
  refine wpAny_call (codeAny_mono (F.run X.A X.stack s2 H2 ([] ++ us) vs Q (hr.mono hkj) I2.env0 r q.1 q.2) fun r' s' hq => ?_)
  cases r' with
  | error e => exact hq.elim
  | ok fl =>
    cases fl with
    | ret u => exact I2.after hq
    | next => exact False.elim hq
    | brk => exact False.elim hq
    | cont => exact False.elim hq
/-- a lambda is made -/
def tLamF (T : List (Addr × Str)) (q : Str) (params : Arguments) (body : Expr) (scope : Scope) : TE := fun _ H Q => Tabs T H ∧ ∀ (f c' : Addr) (H1 : Hp), ExT H H1 → Tabs T H1 → H f = none → LamG f q params body scope c' H1 → Q (.ref f) H1
theorem pe_lamF {T : List (Addr × Str)} {c Pt : Addr} {params : Arguments} {body : Expr} {scope : Scope} {pos : Pos} (TB : TabB X.base X.mg c Pt) (hcode : X.env.code = .ref c)
    (hm : (Pt, X.env.qual ++ "<lambda>") ∈ T) (hu : ∀ p ∈ T, p.1 = Pt → p.2 = X.env.qual ++ "<lambda>") (hdef : defaultsOf params X.env = ([], []) := by rfl) (hno : ∀ y ∈ scope.names, y.2 ≠ .free := by decide +kernel) (hclo : cloFrom X.env.cells scope.names [] = [] := by rfl) :
    PE X (.Lambda params body scope pos) (tLamF T (X.env.qual ++ "<lambda>") params body scope) := by
  refine ⟨fun pins s σ H Q I h => ?_⟩
  obtain ⟨hT, h⟩ := h
  have hcl : closureFor scope X.env = pure [] := by
    rw [closure_ok fun y hy e => absurd e (hno y hy), hclo]
  obtain ⟨ps, hP, ht, ha⟩ := hT _ hm
  refine PySem.W.kla_eval hdef ?_
  have bP : s.heap.BuiltinsAt X.mg Pt := TB.bm.keeps I.bk
  have hP' : s.heap.get? Pt = some { cls := .none, data := .fields ps } := I.hok Pt _ hP
  -- the function's object is laid and tracked
  have fin : ∀ (c' : Addr) (pm ctv : Value) (h' : Heap) (tk : Nat) (H1 : Hp), L2.Inv X pins σ H1 { s with heap := h', toks := tk } → ExT H H1 → Tabs T H1 → H1 c' = some (CodeO c' (X.env.qual ++ "<lambda>")) → H h'.objs.size = none →
      EP X pins σ Q (.ref h'.objs.size) { s with heap := h'.push (PySem.W.kla_obj "<lambda>" (X.env.qual ++ "<lambda>") params body scope [] pm c' ctv), toks := tk } := by
    intro c' pm ctv h' tk H1 I1 eN T1 hco hfn
    have hf1 : H1 h'.objs.size = none := I1.hok.fresh (Nat.le_refl _)
    have hget : (h'.push (PySem.W.kla_obj "<lambda>" (X.env.qual ++ "<lambda>") params body scope [] pm c' ctv)).get? h'.objs.size = some (PySem.W.kla_obj "<lambda>" (X.env.qual ++ "<lambda>") params body scope [] pm c' ctv) := Heap.get?_push_size _ rfl
    have I2 : L2.Inv X pins σ (upd H1 h'.objs.size (LamO h'.objs.size (X.env.qual ++ "<lambda>") params body scope c')) { s with heap := h'.push (PySem.W.kla_obj "<lambda>" (X.env.qual ++ "<lambda>") params body scope [] pm c' ctv), toks := tk } :=
      I1.laid (t' := tk) (fun b o q => Heap.get?_push_of_some _ q) (Nat.le_refl _) ⟨⟨pm, ctv, hget⟩, ⟨_, hget⟩, fun h1 h2 ⟨pm, ctv, e⟩ st => ⟨pm, ctv, st _ e⟩⟩
    have sm := same_new (o := LamO h'.objs.size (X.env.qual ++ "<lambda>") params body scope c') hf1
    exact ⟨.ref h'.objs.size, _, I2, rfl, h _ c' _ (eN.trans (ExT.of sm)) (T1.ext sm) hfn ⟨upd_same, sm _ _ hco⟩⟩
  cases hc : codeAmong pos ps.toList with
  | none =>
    refine PySem.W.kla_makeFunction (mg := X.mg) (c := c) (P := Pt) (ps := ps) hcl I.ok.glob (I.mod.glob.keeps I.bk) hcode (TB.code.keeps I.bk) hP' ht hc TB.gP bP fun c' ctv h' tk hx hge hlt hrec htb => ?_
    obtain ⟨c2, oc, vs, t, e2, hoc, hd, hv⟩ := hrec
    cases e2
    have hsz : s.heap.objs.size ≤ h'.objs.size := Nat.le_trans hge (Nat.le_of_lt hlt)
    have nC : H c' = none := I.hok.fresh hge
    have I1 := inv_table (t' := tk) (more := #[rawInt pos.line, rawInt pos.col, .ref c']) (h' := h') I hP hx htb hge ⟨oc, vs, t, hoc, hd, hv⟩
    have hE : ExtN H (upd (upd H Pt (.tbl (ps ++ #[rawInt pos.line, rawInt pos.col, .ref c']))) c' (CodeO c' (X.env.qual ++ "<lambda>"))) := fun b o e n => by
      rw [upd_ne (ne_of_none e nC), upd_ne (fun z => n ps (Option.some.inj (e.symm.trans (by rw [z]; exact hP))))]
      exact e
    have eL : (ps ++ #[rawInt pos.line, rawInt pos.col, .ref c']).toList = ps.toList ++ [rawInt pos.line, rawInt pos.col, .ref c'] := by simp
    refine fin c' _ ctv h' tk _ I1 ⟨hE, fun b qs e => ?_⟩ (fun p hp => ?_) upd_same (I.hok.fresh hsz)
    · by_cases hb : b = Pt
      · rw [hb]
        exact ⟨_, by rw [upd_ne (ne_of_none hP nC), upd_same]⟩
      · exact ⟨qs, by rw [upd_ne (ne_of_none e nC), upd_ne hb]; exact e⟩
    by_cases hb : p.1 = Pt
    · rw [hu p hp hb, hb]
      refine ⟨_, by rw [upd_ne (ne_of_none hP nC), upd_same], by rw [eL]; exact PySem.TriplesOk_snoc _ _ _ _ ht, fun p' cv hcv => ?_⟩
      rw [eL] at hcv
      rcases among_app _ ht hcv with z | z
      · obtain ⟨c0, e1, e2⟩ := ha p' cv z
        exact ⟨c0, e1, hE _ _ e2 codeO_ne⟩
      · exact ⟨c', z, upd_same⟩
    · obtain ⟨ps', a1, a2, a3⟩ := hT p hp
      refine ⟨ps', by rw [upd_ne (ne_of_none a1 nC), upd_ne hb]; exact a1, a2, fun p' cv hcv => ?_⟩
      obtain ⟨c0, e1, e2⟩ := a3 p' cv hcv
      exact ⟨c0, e1, hE _ _ e2 codeO_ne⟩
  | some cv =>
    obtain ⟨c', e, hco⟩ := ha pos cv hc
    subst e
    refine PySem.W.kla_makeFunctionHit (mg := X.mg) (c := c) (P := Pt) (ps := ps) hcl I.ok.glob (I.mod.glob.keeps I.bk) hcode (TB.code.keeps I.bk) hP' ht hc bP fun ctv h' tk hx hsz => ?_
    exact fin c' _ ctv h' tk H (I.kept (t' := tk) hx) (ExT.refl H) hT hco (I.hok.fresh hsz)
end
end HX
set_option Elab.async false
set_option linter.all false
set_option maxRecDepth 100000
set_option maxHeartbeats 1000000
/-! Normalizer. -/
namespace HX
open PySem PySem.Spec PyProof.Rows L2 LamX
abbrev sInit : Stmt := inClass (top 34) 0
abbrev sSort : Stmt := inClass (top 34) 1
theorem er_ : ¬ (("exchanges" : Str) = "rows") := by decide +kernel
theorem re_ : ¬ (("rows" : Str) = "exchanges") := by decide +kernel
def nf (R E : Addr) : List (Str × V) := putF "exchanges" (.ref E) (putF "rows" (.ref R) [])
theorem nf_rows (R E : Addr) : (nf R E).lookup ("rows" : Str) = some (.ref R) := by
  unfold nf
  rw [lookup_putF, if_neg re_, lookup_putF, if_pos rfl]
theorem nf_exch (R E : Addr) : (nf R E).lookup ("exchanges" : Str) = some (.ref E) := by
  unfold nf
  rw [lookup_putF, if_pos rfl]
theorem nf_no (R E : Addr) {m : Str} (h1 : ¬ m = "exchanges") (h2 : ¬ m = "rows") : (nf R E).lookup m = none := by
  unfold nf
  rw [lookup_putF, if_neg h1, lookup_putF, if_neg h2]
  all_goals rfl
/-- a row's tuple -/
def RowK (K : PySem.W.Frag) (H : Hp) (t : Addr) (rw : Row) : Prop := ∃ st, SqT K H t [.int rw.1, .ref st] ∧ SqT K H st (stepV rw.2)
theorem RowK.kept {K : PySem.W.Frag} {H H' : Hp} {t : Addr} {rw : Row} (k : TupK H H') (h : RowK K H t rw) : RowK K H' t rw := by
  obtain ⟨st, h1, h2⟩ := h
  exact ⟨st, k.sqT h1, k.sqT h2⟩
theorem rows_kept {K : PySem.W.Frag} {H H' : Hp} {ts : List Addr} {l : List Row} (k : TupK H H') (h : Paired (RowK K H) ts l) : Paired (RowK K H') ts l := Paired.mapP h fun _ _ q => q.kept k
theorem rows_zip {K : PySem.W.Frag} {H : Hp} : ∀ {ts : List Addr} {rs : List Int} {us : List Addr} {ss : List Stp}, Paired (fun (t : Addr) (q : V × V) => H t = some (.tup [q.1, q.2])) ts ((rs.map V.int).zip (us.map V.ref)) → Stps K H us ss → rs.length = ss.length → Paired (RowK K H) ts (rs.zip ss)
  | _, [], _, _, h, _, _ => by
    cases h
    exact .nil
  | _, r :: rs, [], _, h, .nil, hl => by cases hl
  | _, r :: rs, u :: us, s :: ss, h, .cons h2 r2, hl => by
    cases h with
    | cons h1 h3 =>
      refine .cons ⟨u, .of h1, h2⟩ (rows_zip h3 r2 (Nat.succ.inj hl))
/-- all but the lists stays -/
def NL (H H' : Hp) : Prop := ∀ b o, H b = some o → (∀ xs, o ≠ .lst xs) → H' b = some o
theorem NL.trans {H H1 H2 : Hp} (a : NL H H1) (b : NL H1 H2) : NL H H2 := fun c o h n => b c o (a c o h n) n
theorem NL.of {H H' : Hp} (s : Same H H') : NL H H' := fun b o h _ => s b o h
theorem NL.set {H : Hp} {L : Addr} {xs ys : List V} (h : H L = some (.lst xs)) : NL H (upd H L (.lst ys)) := fun b o e n => by
  rw [upd_ne (fun z => by rw [z, h] at e; exact n xs (Option.some.inj e).symm)]
  exact e
theorem NL.lam {H H' : Hp} {f : Addr} {q : Str} {params : Arguments} {body : Expr} {scope : Scope} {c' : Addr} (g : LamG f q params body scope c' H) (e : NL H H') : LamG f q params body scope c' H' :=
  ⟨e _ _ g.1 fun _ z => (by
    unfold LamO at z
    cases z), e _ _ g.2 fun _ z => (by
    unfold CodeO at z
    cases z)⟩
theorem NL.tabs {T : List (Addr × Str)} {H H' : Hp} (t : Tabs T H) (e : NL H H') : Tabs T H' := fun p hp => by
  obtain ⟨ps, h1, h2, h3⟩ := t p hp
  refine ⟨ps, e _ _ h1 (fun _ z => by cases z), h2, fun pos cv hc => ?_⟩
  obtain ⟨c, e1, e2⟩ := h3 pos cv hc
  exact ⟨c, e1, e _ _ e2 fun _ z => by
    unfold CodeO at z
    cases z⟩
theorem NL.tupk {H H' : Hp} (e : NL H H') : TupK H H' := ⟨fun b xs h => e b _ h fun _ z => (nomatch z), fun b o xs h => e b _ h fun _ z => (nomatch z)⟩
/-- the normalizer at x, its lists at R and E -/
structure NormAt (K : PySem.W.Frag) (C : Addr) (H : Hp) (x R E : Addr) (es : List Nat) (l : List Row) : Prop where
  ins : ∃ dx, H x = some (.ins C dx (nf R E))
  rows : ∃ ts, H R = some (.lst (ts.map V.ref)) ∧ Paired (RowK K H) ts l
  exch : H E = some (.lst (es.map fun n => V.int (n : Nat)))
  ne : R ≠ E
theorem NormAt.same {K : PySem.W.Frag} {C : Addr} {H H' : Hp} {x R E : Addr} {es : List Nat} {l : List Row} (n : NormAt K C H x R E es l) (s : Same H H') : NormAt K C H' x R E es l := by
  obtain ⟨⟨dx, h1⟩, ⟨ts, h2, h3⟩, h4, h5⟩ := n
  exact ⟨⟨dx, s _ _ h1⟩, ⟨ts, s _ _ h2, rows_kept (TupK.of s) h3⟩, s _ _ h4, h5⟩
section
variable {K : PySem.W.Frag} {H H' : Hp}
mutual
theorem dp_same (s : Same H H') : ∀ (d : PyData) (v : V), Dp K H v d → Dp K H' v d
  | .none, v, h => by
    cases h
    exact .non
  | .bool b, v, h => by
    cases h
    exact .bl b
  | .int i, v, h => by
    cases h
    exact .int i
  | .str x, v, h => by
    cases h
    exact .str x
  | .list ds, v, h => by
    cases h with
    | lst q r => exact .lst (s.seq q) (dps_same s ds _ r)
  | .tuple ds, v, h => by
    cases h with
    | tup q r => exact .tup (Same.sqT s q) (dps_same s ds _ r)
  | .dict _, v, h => by cases h
theorem dps_same (s : Same H H') : ∀ (ds : List PyData) (vs : List V), DpAll K H vs ds → DpAll K H' vs ds
  | [], vs, h => by
    cases h
    exact .nil
  | d :: ds, vs, h => by
    cases h with
    | cons p r => exact .cons (dp_same s d _ p) (dps_same s ds _ r)
end
end
structure Nz (K : PySem.W.Frag) (mg : Str → Option Value) (C : Addr) : Prop where
  cl : Cls K C
  nR : NoAttr K C "rows"
  nE : NoAttr K C "exchanges"
  mgC : mg "Normalizer" = some (.ref C)
theorem set_swp {α : Type} {l : List α} {k : Nat} {a b : α} (ha : l[k]? = some a) (hb : l[k + 1]? = some b) : (l.set k b).set (k + 1) a = swp l k := by
  have h : k + 1 < l.length := (List.getElem?_eq_some_iff.mp hb).1
  obtain ⟨p, x, y, q, rfl, rfl⟩ := swp_split h
  rw [swp_at]
  have e1 : x = a := by simpa using ha
  have e2 : y = b := by simpa using hb
  subst e1 e2
  simp [List.set_append]
theorem atI_at {xs : List V} {z : Int} {j : Nat} {v : V} (e : z = (j : Int)) (h : xs[j]? = some v) : atI xs z = some v := by
  rw [e]
  exact atI_nat h
theorem ixN_at {n : Nat} {z : Int} {j : Nat} (e : z = (j : Int)) (h : j < n) : ixN n z = some j := by
  rw [e]
  unfold ixN
  rw [if_pos (by omega), if_pos (by omega)]
  rfl
theorem asc_one (gt : Row → Row → Bool) : ∀ l : List Row, Asc gt (l.take 1)
  | [] => List.Pairwise.nil
  | x :: _ => List.pairwise_singleton _ _
section
variable {P : Program} {w : World} {K : PySem.W.Frag} {mg : Str → Option Value} {base : Heap}
def spNInit (K : PySem.W.Frag) (C : Addr) : Sp := fun vs H Q _ => ∃ (H0 : Hp) (x dx a : Addr) (ss : List Stp), vs = [.ref x, .ref a] ∧ Same H0 H ∧ H0 x = none ∧ H x = some (.ins C dx []) ∧ SeqAt K H a ss ∧ ss.length ≤ 100 ∧
  ∀ H' R E rs pr, Same H0 H' → H0 R = none → H0 E = none → NormAt K C H' x R E [] (rs.zip ss) → RI ss rs pr → Q .non H'
theorem scI : FnScope ["self", "sequence"] ["self", "sequence"] (defScope sInit) := ⟨rfl, rfl, rfl, by decide +kernel, rfl, by decide +kernel, by decide +kernel⟩
theorem ok_init {f C : Addr} {fd : FuncData} (F : Fun K "__init__" "Normalizer.__init__" sInit f fd) (T : Txt K mg) (N : Nz K mg C) (CR : Cal P w K mg base 1 "roles" (spRoles K)) : FnOk P w K mg base CX0 2 f fd ["self", "sequence"] (spNInit K C) := by
  refine F.ok scI (fun vs H Q E h => ?_) (fun cdv A outer s H vs Q E hr h => ?_)
  · obtain ⟨H0, x, dx, a, ss, rfl, _⟩ := h
    rfl
  · obtain ⟨H0, x, dx, a, ss, rfl, s0, x0, hx, hq, hl, k⟩ := h
    refine ⟨_, pss_cons (ps_fld (pv 0) (pe_listZip rfl rfl T.list boot_list rfl T.zip (pa_cons (pe_cl CR hr (pa_cons (pv 1) pa_nil)) (pa_cons (pv 1) pa_nil))) rfl) (pss_one (ps_fld (pv 0) (pe_lst pa_nil) rfl)), ?_⟩
    refine ⟨_, rfl, a, ss, rfl, hq, hl, fun Rl H1 rs pr s1 nR hR ri => ?_⟩
    obtain ⟨us, g1, g2⟩ := SeqAt.same s1 hq
    refine ⟨_, rfl, Rl, a, rs.map V.int, us.map V.ref, rfl, .of hR, g1, by rw [List.length_map, List.length_map, g2.length, ri.len], fun H2 p ts s2 np hp pz => ?_⟩
    have s12 := s1.trans s2
    have nxp : x ≠ p := ne_of_none (s1 _ _ hx) np
    have g3 := rows_zip pz (g2.kept (TupK.of s2)) ri.len
    refine ⟨_, rfl, x, C, dx, [], rfl, s12 _ _ hx, N.cl, N.nR, (by show 0 < 1000; decide), ?_⟩
    refine ⟨Nat.zero_le _, fun E' hE => ?_⟩
    have nxE : x ≠ E' := fun z => by
      rw [← z, upd_same] at hE
      cases hE
    have npE : p ≠ E' := fun z => by
      rw [← z, upd_ne nxp.symm, hp] at hE
      cases hE
    have hE2 : H2 E' = none := by
      rw [upd_ne nxE.symm] at hE
      exact hE
    refine ⟨_, rfl, x, C, dx, _, rfl, by rw [upd_ne nxE, upd_same], N.cl, N.nE, (by show 1 < 1000; decide), ?_⟩
    have kS : Same H0 (upd (upd (upd H2 x (.ins C dx (putF "rows" (.ref p) []))) E' (.lst [])) x (.ins C dx (putF "exchanges" (.ref E') (putF "rows" (.ref p) [])))) := fun b o e => by
      have nb : b ≠ x := ne_of_none e x0
      have nb2 : b ≠ E' := ne_of_none (s12 _ _ (s0 _ _ e)) hE2
      rw [upd_ne nb, upd_ne nb2, upd_ne nb]
      exact s12 _ _ (s0 _ _ e)
    have kT : TupK H2 (upd (upd (upd H2 x (.ins C dx (putF "rows" (.ref p) []))) E' (.lst [])) x (.ins C dx (putF "exchanges" (.ref E') (putF "rows" (.ref p) [])))) := by
      have key : ∀ b o, H2 b = some o → (∀ c d fs, o ≠ .ins c d fs) → (upd (upd (upd H2 x (.ins C dx (putF "rows" (.ref p) []))) E' (.lst [])) x (.ins C dx (putF "exchanges" (.ref E') (putF "rows" (.ref p) [])))) b = some o := fun b o e n => by
        have nb : b ≠ x := fun z => by
          rw [z, s12 _ _ hx] at e
          exact n _ _ _ (Option.some.inj e).symm
        rw [upd_ne nb, upd_ne (ne_of_none e hE2), upd_ne nb]
        exact e
      exact ⟨fun b xs e => key b _ e fun _ _ _ z => (nomatch z), fun b o xs e => key b _ e fun _ _ _ z => (nomatch z)⟩
    refine k _ p E' rs pr kS ((s0.trans s1).free np) ((s0.trans s12).free hE2) ⟨⟨dx, upd_same⟩, ⟨ts, ?_, rows_kept kT g3⟩, ?_, npE⟩ ri
    · rw [upd_ne nxp.symm, upd_ne npE, upd_ne nxp.symm]
      exact hp
    · rw [upd_ne nxE.symm, upd_same]
      rfl
/-! ### sort_by -/
def spRank (K : PySem.W.Frag) (rk : Row → PyData) : Sp := fun vs H Q _ => ∃ (t : Addr) (rw : Row), vs = [.ref t] ∧ RowK K H t rw ∧ ∀ v H', Same H H' → Dp K H' v (rk rw) → Q v H'
/-- a rank and the order that it tells -/
structure RkD (gt : Row → Row → Bool) (rk : Row → PyData) : Prop where
  ord : Rk gt
  gt : ∀ a b, PySem.W.dataLt (rk b) (rk a) = gt a b
  al : ∀ a b, PySem.W.alike (rk a) (rk b) = true
  nn : ∀ a, rk a ≠ .none
  dp : ∀ a, (rk a).depth ≤ 60
def spSort (P : Program) (w : World) (K : PySem.W.Frag) (mg : Str → Option Value) (base : Heap) (C : Addr) : Sp := fun vs H Q _ => ∃ (x f R E : Addr) (G : Hp → Prop) (gt : Row → Row → Bool) (rk : Row → PyData) (es : List Nat) (l : List Row), vs = [.ref x, .ref f] ∧ NormAt K C H x R E es l ∧
  RunL P w K mg base 2 f G (spRank K rk) ∧ G H ∧ (∀ H1 H2, NL H1 H2 → G H1 → G H2) ∧ RkD gt rk ∧ l.length ≤ 100 ∧ es.length ≤ 20000 ∧
  ∀ H' ks l', NL H H' → Kept [R, E] H H' → NormAt K C H' x R E (es ++ ks) l' → Chain gt l ks l' → Asc gt l' → ks.length ≤ 10000 → Q .non H'
theorem scSt : FnScope ["self", "rank", "end", "at"] ["self", "rank"] (defScope sSort) := ⟨rfl, rfl, rfl, by decide +kernel, rfl, by decide +kernel, by decide +kernel⟩
theorem ok_sort {f0 C : Addr} {fd : FuncData} (F : Fun K "sort_by" "Normalizer.sort_by" sSort f0 fd) (T : Txt K mg) (N : Nz K mg C) : FnOk P w K mg base CX0 4 f0 fd ["self", "rank"] (spSort P w K mg base C) := by
  refine F.ok scSt (fun vs H Q E h => ?_) (fun cdv A outer s H vs Q E0 hr h => ?_)
  · obtain ⟨x, f, R, E, G, gt, rk, es, l, rfl, _⟩ := h
    rfl
  · obtain ⟨x, f, R, E, G, gt, rk, es, l, rfl, n0, RL, g0, gk, rd, hl, he, k⟩ := h
    have hu := hr.units
    refine ⟨_, pss_one (ps_for PassesOwn.never rfl (pi_range2 rfl T.range (pa_cons pe_int (pa_cons (pe_callB call_len_seq rfl T.len PySem.boot_len (pa_cons (pe_fld (pv 0) rfl) pa_nil)) pa_nil))) (pg_name (i := 2) scSt.nd rfl (.inl rfl))
      (pss_cons (ps_set (i := 3) scSt.nd rfl (.inl rfl) (pv 2))
      (pss_one (ps_while PassesOwn.never (PW.pt (pw_and (pt_cmpR op_gt (pv 3) pe_int (nomark _)) (pw_and1 (pt_cmpR (op_gtP hu) (pe_callF (i := 1) RL hr (pa_cons (pe_ix ix_list (pe_fld (pv 0) rfl) (pe_op op_sub (pv 3) pe_int) (fun _ _ => rfl)) pa_nil)) (pe_callF (i := 1) RL hr (pa_cons (pe_ix ix_list (pe_fld (pv 0) rfl) (pv 3) (fun _ _ => rfl)) pa_nil)) (nomark _)))))
        (pss_cons (ps_asg (pe_tup (pa_cons (pe_ix ix_list (pe_fld (pv 0) rfl) (pv 3) (fun _ _ => rfl)) (pa_cons (pe_ix ix_list (pe_fld (pv 0) rfl) (pe_op op_sub (pv 3) pe_int) (fun _ _ => rfl)) pa_nil)))
          (pg_tup (n := 2) rfl (pgs_cons (pg_sub (pe_fld (pv 0) rfl) (pe_op op_sub (pv 3) pe_int) set_list) (pgs_cons (pg_sub (pe_fld (pv 0) rfl) (pv 3) set_list) pgs_nil))))
        (pss_cons (ps_expr (pe_bm PySem.F.plainAttrs_list PySem.F.slot_list_append PySem.F.type_list_append mt_append (pe_fld (pv 0) rfl) (pa_cons (pe_op op_sub (pv 3) pe_int) pa_nil)))
        (pss_one (ps_aug (i := 3) scSt.nd rfl (.inl rfl) pe_int ip_sub)))))))), ?_⟩
    obtain ⟨⟨dx0, hx0⟩, ⟨ts0, hR0, hp0⟩, hE0, nRE⟩ := id n0
    have ll0 : (ts0.map V.ref).length = l.length := by rw [List.length_map, hp0.length]
    refine ⟨_, rfl, x, C, dx0, _, _, rfl, hx0, N.cl, N.nR, nf_rows _ _, R, _, rfl, .inl (SqL.of hR0), 1, _, rfl, ⟨by decide, by decide, by omega, by omega⟩, ?_⟩
    rw [ll0]
    refine for_range (fun i σ H' => ∃ (o2 o3 : Option V) (ks : List Nat) (l' : List Row), σ = [some (.ref x), some (.ref f), o2, o3] ∧ NL H H' ∧ Kept [R, E] H H' ∧ NormAt K C H' x R E (es ++ ks) l' ∧ Chain gt l ks l' ∧ Asc gt (l'.take (i + 1)) ∧ ks.length ≤ i * 100)
      ⟨none, none, [], l, rfl, fun _ _ e _ => e, .refl _ _, by rw [List.append_nil]; exact n0, rfl, asc_one gt l, Nat.zero_le _⟩ ?_ ?_
    · rintro i σ H' hi ⟨o2, o3, ks, l', rfl, nl, kp, nm, ch, asc, hks⟩
      have hl' : l'.length = l.length := ch.perm.length_eq
      have ei : (1 : Int) + (i : Nat) = ((i + 1 : Nat) : Int) := by omega
      refine ⟨_, rfl, ?_⟩
      rw [ei]
      refine ⟨fun m σ H' => ∃ (ks : List Nat) (l' : List Row), σ = [some (.ref x), some (.ref f), some (.int ((i + 1 : Nat) : Int)), some (.int (m : Nat))] ∧ NL H H' ∧ Kept [R, E] H H' ∧ NormAt K C H' x R E (es ++ ks) l' ∧ Chain gt l ks l' ∧ Mid gt l' (i + 1) m ∧ ks.length + m ≤ i * 100 + (i + 1),
        ⟨i + 1, ks, l', rfl, nl, kp, nm, ch, .start (by omega) asc, by omega⟩, ?_⟩
      clear asc hks ch nm kp nl hl' ks l'
      rintro m σ H' ⟨ks, l', rfl, nl, kp, nm, ch, mid, hks⟩
      have hl' : l'.length = l.length := ch.perm.length_eq
      have hme := mid.je
      refine ⟨_, rfl, (m : Int), 0, rfl, rfl, _, rfl, ?_⟩
      cases m with
      | zero =>
        rw [decide_eq_false (by omega)]
        refine iteF (iteF ⟨_, _, ks, l', rfl, nl, kp, nm, ch, mid.done rd.ord (.inl rfl), by omega⟩)
      | succ m =>
        rw [decide_eq_true (by omega)]
        obtain ⟨⟨dx, hx⟩, ⟨ts, hR, hp⟩, hE, _⟩ := id nm
        have lts : ts.length = l'.length := hp.length
        obtain ⟨ta, hta⟩ : ∃ t, ts[m]? = some t := ⟨_, List.getElem?_eq_getElem (by omega)⟩
        obtain ⟨tb, htb⟩ : ∃ t, ts[m + 1]? = some t := ⟨_, List.getElem?_eq_getElem (by omega)⟩
        obtain ⟨ra, hra, qa⟩ := paired_at hp hta
        obtain ⟨rb, hrb, qb⟩ := paired_at hp htb
        have xa : (ts.map V.ref)[m]? = some (.ref ta) := by
          rw [List.getElem?_map, hta]
          rfl
        have xb : (ts.map V.ref)[m + 1]? = some (.ref tb) := by
          rw [List.getElem?_map, htb]
          rfl
        have em : ((m + 1 : Nat) : Int) - 1 = (m : Nat) := by omega
        have gH := gk _ _ nl g0
        refine iteT ⟨rfl, gH, _, rfl, x, C, dx, _, _, rfl, hx, N.cl, N.nR, nf_rows _ _, _, rfl, _, _, rfl, rfl, R, _, _, _, rfl, rfl, .of hR, atI_at em xa, gH, ta, ra, rfl, qa, fun v1 H1 s1 d1 => ?_⟩
        have g1 := gk _ _ (NL.of s1) gH
        refine ⟨rfl, g1, _, rfl, x, C, dx, _, _, rfl, s1 _ _ hx, N.cl, N.nR, nf_rows _ _, _, rfl, R, _, _, _, rfl, rfl, .of (s1 _ _ hR), atI_at rfl xb, g1, tb, rb, rfl, qb.kept (TupK.of s1), fun v2 H2 s2 d2 => ?_⟩
        refine ⟨_, _, dp_same s2 _ _ d1, d2, rd.al _ _, rd.nn _, rd.dp _, _, rfl, ?_⟩
        rw [rd.gt]
        have s12 := s1.trans s2
        have nl2 := nl.trans (NL.of s12)
        have kp2 : Kept [R, E] H H2 := kp.trans (Same.kept s12)
        have nm2 := nm.same s12
        by_cases gg : gt ra rb = true
        · have hx2 := s12 _ _ hx
          have hR2 := s12 _ _ hR
          have hE2 := s12 _ _ hE
          have hp2 := rows_kept (TupK.of s12) hp
          refine ite_yes gg ⟨fun σ' H'' => ∃ m', m' < m + 1 ∧ ∃ (ks : List Nat) (l' : List Row), σ' = [some (.ref x), some (.ref f), some (.int ((i + 1 : Nat) : Int)), some (.int (m' : Nat))] ∧ NL H H'' ∧ Kept [R, E] H H'' ∧ NormAt K C H'' x R E (es ++ ks) l' ∧ Chain gt l ks l' ∧ Mid gt l' (i + 1) m' ∧ ks.length + m' ≤ i * 100 + (i + 1), fun _ _ z => z, ?_⟩
          refine ⟨_, rfl, x, C, dx, _, _, rfl, hx2, N.cl, N.nR, nf_rows _ _, _, rfl, R, _, _, _, rfl, rfl, .of hR2, atI_at rfl xb, _, rfl, x, C, dx, _, _, rfl, hx2, N.cl, N.nR, nf_rows _ _, _, rfl, _, _, rfl, rfl, R, _, _, _, rfl, rfl, .of hR2, atI_at em xa, (by show 2 ≤ sizeLine; decide), fun p hp' => ?_⟩
          have sp := same_new (o := .tup [.ref tb, .ref ta]) hp'
          have hx3 := sp _ _ hx2
          have hR3 := sp _ _ hR2
          have hE3 := sp _ _ hE2
          have hp3 := rows_kept (TupK.of sp) hp2
          have nl3 := nl2.trans (NL.of sp)
          have kp3 : Kept [R, E] H _ := kp2.trans (Same.kept sp)
          have hP3 : upd H2 p (.tup [.ref tb, .ref ta]) p = some (.tup [.ref tb, .ref ta]) := upd_same
          generalize upd H2 p (.tup [.ref tb, .ref ta]) = H3 at *
          have nxR : x ≠ R := ne_of hx3 hR3 (fun z => nomatch z)
          have nxE : x ≠ E := ne_of hx3 hE3 (fun z => nomatch z)
          have nl4 := nl3.trans (NL.set (ys := (ts.map V.ref).set m (.ref tb)) hR3)
          refine ⟨p, _, rfl, .of hP3, rfl, _, _, rfl, _, rfl, x, C, dx, _, _, rfl, hx3, N.cl, N.nR, nf_rows _ _, _, rfl, _, _, rfl, rfl, R, _, _, m, rfl, rfl, hR3, ixN_at em (by rw [List.length_map]; omega), ?_⟩
          refine ⟨_, _, rfl, _, rfl, x, C, dx, _, _, rfl, by rw [upd_ne nxR]; exact hx3, N.cl, N.nR, nf_rows _ _, _, rfl, R, _, _, m + 1, rfl, rfl, upd_same, ixN_at rfl (by rw [List.length_set, List.length_map]; omega), rfl, ?_⟩
          rw [upd_upd, set_swp xa xb]
          have hlt : m + 1 < ts.length := by omega
          rw [← swp_map V.ref hlt]
          have nl5 := nl3.trans (NL.set (ys := (swp ts m).map V.ref) hR3)
          have hx5 : upd H3 R (.lst ((swp ts m).map V.ref)) x = some (.ins C dx (nf R E)) := by
            rw [upd_ne nxR]
            exact hx3
          have hE5 : upd H3 R (.lst ((swp ts m).map V.ref)) E = some (.lst ((es ++ ks).map fun n => V.int (n : Nat))) := by
            rw [upd_ne nRE.symm]
            exact hE3
          refine ⟨_, rfl, x, C, dx, _, _, rfl, hx5, N.cl, N.nE, nf_exch _ _, .inl ⟨rfl, _, .of hE5⟩, _, rfl, _, _, rfl, rfl, E, _, _, rfl, rfl, hE5, ?_, ?_⟩
          · rw [List.length_map, List.length_append, sizeLine_eq]
            omega
          · have tk6 : TupK H3 (upd (upd H3 R (.lst ((swp ts m).map V.ref))) E (.lst (((es ++ ks).map fun n => V.int (n : Nat)) ++ [.int (((m + 1 : Nat) : Int) - 1)]))) := (tupk_set hR3).trans (tupk_set hE5)
            refine ⟨_, rfl, _, _, rfl, rfl, m, Nat.lt_succ_self _, ks ++ [m], swp l' m, ?_, nl5.trans (NL.set hE5), ?_, ?_, ch.snoc hra hrb gg, mid.step rd.ord hra hrb gg, ?_⟩
            · show [some (V.ref x), some (V.ref f), some (V.int ((i + 1 : Nat) : Int)), some (V.int (((m + 1 : Nat) : Int) - 1))] = _
              rw [em]
            · exact (kp3.trans (Kept.set List.mem_cons_self)).trans (Kept.set (List.mem_cons_of_mem _ List.mem_cons_self))
            · refine ⟨⟨dx, ?_⟩, ⟨swp ts m, ?_, rows_kept tk6 (paired_swp m hp3)⟩, ?_, nRE⟩
              · rw [upd_ne nxE]
                exact hx5
              · rw [upd_ne nRE, upd_same]
              · rw [upd_same]
                show some (HO.lst (((es ++ ks).map fun n => V.int (n : Nat)) ++ [V.int (((m + 1 : Nat) : Int) - 1)])) = _
                rw [em, ← List.append_assoc]
                simp only [List.map_append]
                rfl
            · rw [List.length_append]
              have : [m].length = 1 := rfl
              omega
        · refine ite_no gg ⟨_, _, ks, l', rfl, nl2, kp2, nm2, ch, mid.done rd.ord (.inr ⟨ra, rb, hra, hrb, by rw [Bool.not_eq_true] at gg; exact gg⟩), by omega⟩
    · rintro σ H' ⟨o2, o3, ks, l', rfl, nl, kp, nm, ch, asc, hks⟩
      have hl' : l'.length = l.length := ch.perm.length_eq
      rw [List.take_of_length_le (by omega)] at asc
      exact k H' ks l' nl kp nm ch asc (by omega)
end
end HX
set_option Elab.async false
set_option linter.all false
set_option maxRecDepth 100000
set_option maxHeartbeats 1000000
/-! normalizing_exchanges. -/
namespace HX
open PySem PySem.Spec PyProof.Rows L2 LamX
/-- a def whose code object stands at c -/
structure DefC (K : PySem.W.Frag) (mg : Str → Option Value) (x : Str) (st : Stmt) (ps : List Str) (c : Addr) : Prop where
  ex : ∃ (f : Addr) (oc : Value) (od : Option Addr) (kV doc pm : Value) (an : Option Addr) (ct : Value) (osl : Array (Option Value)), K.lookup f = some ⟨oc, od, .func (PySem.W.fnOf x x (defArgs st) (defBody st) (defScope st) .none kV doc pm an (.ref c) ct), osl⟩ ∧
    PySem.W.codeIn K (.ref c) x = true ∧ PySem.W.keepIn K (.ref f) = true ∧ mg x = some (.ref f) ∧ Binds K (PySem.W.fnOf x x (defArgs st) (defBody st) (defScope st) .none kV doc pm an (.ref c) ct) ps []
section
variable {P : Program} {w : World} {K : PySem.W.Frag} {mg : Str → Option Value} {base : Heap}
theorem DefC.cal {x : Str} {st : Stmt} {N ps : List Str} {k : Nat} {sp : Sp} {c : Addr} (D : DefC K mg x st ps c) (S : FnScope N ps (defScope st)) (len : ∀ vs H Q E, sp vs H Q E → vs.length = ps.length)
    (hbody : ∀ (f : Addr) (A : Around) (outer : List Env) (s : Shared) (H : Hp) (vs : List V) (Q : VK) (E : XK), Room k (A.deeper (envOfC x (defScope st) s.heap.objs.size f (.ref c))) → sp vs H Q E →
      ∃ t, PSs (cxOf CX0 P w K mg base N x (defScope st) f (.ref c) A outer s H E).nox (defBody st) t ∧ t { nx := fun _ H' => Q .non H', rt := Q } (start N vs) H) : Cal P w K mg base (k + 1) x sp := by
  obtain ⟨f, oc, od, kV, doc, pm, an, ct, osl, lk, hcd, hk, hm, hb⟩ := D.ex
  refine ⟨f, _, ps, fn_of lk hcd S len fun A outer s H vs Q E hr h => ?_, hm, hk, hb⟩
  obtain ⟨t, h1, h2⟩ := hbody f A outer s H vs Q E hr h
  exact ⟨t, h1.nox, h2⟩
end
/-! ### the three ranks -/
def lamSt (i : Nat) : Stmt := (defBody (top 35)).getD i (.Pass ⟨0, 0, 0, 0⟩)
def lamX (i : Nat) : Arguments × Expr × Scope := match lamSt i with
  | .Expr (.Call _ [.Lambda p b sc _] _ _) _ => (p, b, sc)
  | _ => (defArgs (top 35), .Constant .none 0 ⟨0, 0, 0, 0⟩, defScope (top 35))
abbrev lamP (i : Nat) : Arguments := (lamX i).1
abbrev lamB (i : Nat) : Expr := (lamX i).2.1
abbrev lamC (i : Nat) : Scope := (lamX i).2.2
abbrev lamQ : Str := ("normalizing_exchanges" : Str) ++ ".<locals>." ++ "<lambda>"
def rkDS (r : Row) : PyData := .bool (r.1 == 2)
def rkDR (r : Row) : PyData := .int r.1
def rkDL (r : Row) : PyData := pD (r.1, num r.2)
theorem rdS : RkD gtS rkDS where
  ord := rkS
  gt a b := by
    refine (PySem.W.dataLt_bool _ _).trans ?_
    unfold gtS
    by_cases ha : a.1 = 2 <;> by_cases hb : b.1 = 2 <;> simp [ha, hb, b2i]
  al a b := rfl
  nn a := fun z => nomatch z
  dp a := Nat.zero_le _
theorem rdR : RkD gtR rkDR where
  ord := rkR
  gt a b := PySem.W.dataLt_int _ _
  al a b := rfl
  nn a := fun z => nomatch z
  dp a := Nat.zero_le _
theorem rdL : RkD gtL rkDL where
  ord := rkL
  gt a b := by
    refine (dataLt_pD _ _).trans ?_
    rw [Bool.eq_iff_iff, decide_eq_true_iff, gtL_iff]
    show (b.1 < a.1 ∨ b.1 = a.1 ∧ num b.2 < num a.2) ↔ _
    omega
  al a b := alike_pD _ _
  nn a := fun z => nomatch z
  dp a := Nat.le_trans (depth_pD _) (by decide)
section
variable {P : Program} {w : World} {K : PySem.W.Frag} {mg : Str → Option Value} {base : Heap}
theorem scL1 : FnScope ["row"] ["row"] (lamC 1) := ⟨rfl, rfl, rfl, by decide +kernel, rfl, by decide +kernel, by decide +kernel⟩
theorem scL2 : FnScope ["row"] ["row"] (lamC 2) := ⟨rfl, rfl, rfl, by decide +kernel, rfl, by decide +kernel, by decide +kernel⟩
theorem scL3 : FnScope ["row"] ["row"] (lamC 3) := ⟨rfl, rfl, rfl, by decide +kernel, rfl, by decide +kernel, by decide +kernel⟩
theorem run_lam1 {f c' : Addr} (T : Txt K mg) : RunL P w K mg base 2 f (LamG f lamQ (lamP 1) (lamB 1) (lamC 1) c') (spRank K rkDS) := by
  obtain ⟨t2, hsu⟩ := T.su
  refine lam_run scL1 (fun pm cv ctv us hl => match us, hl with | [_], _ => rfl) (fun vs H Q E h => ?_) (fun A outer s H vs Q E hr h => ?_)
  · obtain ⟨t, rw, rfl, _⟩ := h
    rfl
  · obtain ⟨t, rw, rfl, ⟨st, h1, h2⟩, k⟩ := h
    refine ⟨_, pe_cmpR op_eq (pe_ix ix_tup (pv 0) pe_int (fun _ _ => rfl)) (pe_glob (v := .int 2) rfl hsu ⟨_, rfl⟩) (nomark _), ?_⟩
    refine ⟨_, rfl, t, _, 0, _, rfl, rfl, h1, rfl, rfl, ?_⟩
    rw [dec_int]
    exact k _ _ (.refl _) (.bl _)
theorem run_lam2 {f c' : Addr} (T : Txt K mg) : RunL P w K mg base 2 f (LamG f lamQ (lamP 2) (lamB 2) (lamC 2) c') (spRank K rkDR) := by
  refine lam_run (k := 1) scL2 (fun pm cv ctv us hl => match us, hl with | [_], _ => rfl) (fun vs H Q E h => ?_) (fun A outer s H vs Q E hr h => ?_)
  · obtain ⟨t, rw, rfl, _⟩ := h
    rfl
  · obtain ⟨t, rw, rfl, ⟨st, h1, h2⟩, k⟩ := h
    exact ⟨_, pe_ix ix_tup (pv 0) pe_int (fun _ _ => rfl), _, rfl, t, _, 0, _, rfl, rfl, h1, rfl, k _ _ (.refl _) (.int _)⟩
theorem run_lam3 {f c' : Addr} (C : Cal P w K mg base 1 "sort_key" (spKey K)) : RunL P w K mg base 2 f (LamG f lamQ (lamP 3) (lamB 3) (lamC 3) c') (spRank K rkDL) := by
  refine lam_run scL3 (fun pm cv ctv us hl => match us, hl with | [_], _ => rfl) (fun vs H Q E h => ?_) (fun A outer s H vs Q E hr h => ?_)
  · obtain ⟨t, rw, rfl, _⟩ := h
    rfl
  · obtain ⟨t, rw, rfl, ⟨st, h1, h2⟩, k⟩ := h
    refine ⟨_, pe_cl C hr (pa_cons (pe_ix ix_tup (pv 0) pe_int (fun _ _ => rfl)) (pa_cons (pe_ix ix_tup (pv 0) pe_int (fun _ _ => rfl)) pa_nil)), ?_⟩
    refine ⟨_, rfl, t, _, 0, _, rfl, rfl, h1, rfl, _, rfl, t, _, 1, _, rfl, rfl, h1, rfl, rw.1, st, rw.2, rfl, h2, fun p H' s' q => ?_⟩
    exact k _ _ s' (.tup q (.cons (.int _) (.cons (.int _) .nil)))

/-! ### normalizing_exchanges -/
structure NzF (K : PySem.W.Frag) (C : Addr) : Prop where
  ex : ∃ (fI fS : Addr) (fdI fdS : FuncData), Fun K "__init__" "Normalizer.__init__" sInit fI fdI ∧ Binds K fdI ["self", "sequence"] [] ∧ Mk K C fI ∧ Fun K "sort_by" "Normalizer.sort_by" sSort fS fdS ∧ Binds K fdS ["self", "rank"] [] ∧ Meth K C "sort_by" fS
theorem ExT.sqL {K : PySem.W.Frag} {H H' : Hp} {a : Addr} {xs : List V} (e : ExT H H') (h : SqL K H a xs) : SqL K H' a xs := by
  replace e := e.1
  rcases h with (h | ⟨o, h⟩) | h
  · exact .inl (.inl (e _ _ h fun _ z => (nomatch z)))
  · exact .inl (.inr ⟨o, e _ _ h fun _ z => (nomatch z)⟩)
  · exact .inr h
theorem ExT.tupk {H H' : Hp} (e : ExT H H') : TupK H H' := ⟨fun b xs h => e.1 b _ h fun _ z => (nomatch z), fun b o xs h => e.1 b _ h fun _ z => (nomatch z)⟩
theorem ExT.seqAt {K : PySem.W.Frag} {H H' : Hp} {a : Addr} {ss : List Stp} (e : ExT H H') (h : SeqAt K H a ss) : SeqAt K H' a ss := by
  obtain ⟨ts, h1, h2⟩ := h
  exact ⟨ts, e.sqL h1, h2.kept e.tupk⟩
theorem ExT.nl {H H1 H2 : Hp} {W : List Addr} (a : ExT H H1) (n : NL H1 H2) (k : Kept W H1 H2) (i : ∀ b o, H b = some o → b ∉ W) : ExT H H2 :=
  ⟨fun b o e t => k b o (a.1 b o e t) (i b o e), fun b ps e => by
    obtain ⟨ps', h⟩ := a.2 b ps e
    exact ⟨ps', n b _ h fun _ z => (nomatch z)⟩⟩
theorem NormAt.ext {K : PySem.W.Frag} {C : Addr} {H H' : Hp} {x R E : Addr} {es : List Nat} {l : List Row} (n : NormAt K C H x R E es l) (s : ExT H H') : NormAt K C H' x R E es l := by
  obtain ⟨⟨dx, h1⟩, ⟨ts, h2, h3⟩, h4, h5⟩ := n
  exact ⟨⟨dx, s.1 _ _ h1 fun _ z => (nomatch z)⟩, ⟨ts, s.1 _ _ h2 fun _ z => (nomatch z), rows_kept s.tupk h3⟩, s.1 _ _ h4 fun _ z => (nomatch z), h5⟩
def spNE (K : PySem.W.Frag) (Tb : List (Addr × Str)) : Sp := fun vs H Q _ => ∃ (a : Addr) (ss : List Stp), vs = [.ref a] ∧ SeqAt K H a ss ∧ ss.length ≤ 100 ∧ Tabs Tb H ∧
  ∀ H' E es, ExT H H' → Tabs Tb H' → H E = none → H' E = some (.lst (es.map fun n => V.int (n : Nat))) → Nrm ss es → Q (.ref E) H'
theorem sc35 : FnScope ["sequence", "normalizer"] ["sequence"] (defScope (top 35)) := ⟨rfl, rfl, rfl, by decide +kernel, rfl, by decide +kernel, by decide +kernel⟩
theorem cal_ne {c Pt C : Addr} (D : DefC K mg "normalizing_exchanges" (top 35) ["sequence"] c) (TB : TabB base mg c Pt) (T : Txt K mg) (N : Nz K mg C) (NF : NzF K C) (CR : Cal P w K mg base 1 "roles" (spRoles K)) (CK : Cal P w K mg base 1 "sort_key" (spKey K)) :
    Cal P w K mg base 5 "normalizing_exchanges" (spNE K [(Pt, lamQ)]) := by
  obtain ⟨fI, fS, fdI, fdS, FI, bI, M, FS, bS, mS⟩ := NF.ex
  have GI := ok_init (P := P) (w := w) (base := base) FI T N CR
  have GS := ok_sort (P := P) (w := w) (base := base) FS T N
  refine D.cal sc35 (fun vs H Q E h => ?_) (fun f A outer s H vs Q E hr h => ?_)
  · obtain ⟨a, ss, rfl, _⟩ := h
    rfl
  · obtain ⟨a, ss, rfl, hq, hl, hT, k⟩ := h
    have hr3 : Room 3 _ := hr.mono (by decide)
    have mem1 : (Pt, lamQ) ∈ [(Pt, lamQ)] := List.mem_cons_self
    have un1 : ∀ p ∈ [(Pt, lamQ)], p.1 = Pt → p.2 = lamQ := fun p hp _ => by
      rw [List.mem_singleton.mp hp]
    refine ⟨_, pss_cons (ps_set (i := 1) sc35.nd rfl (.inl rfl) (pe_make M GI hr3 rfl N.mgC bI .nil pass0 (pa_cons (pv 0) pa_nil)))
      (pss_cons (ps_expr (pe_meth (pv 1) N.cl mS GS hr bS .nil pass0 (pa_cons (pe_lamF (T := [(Pt, lamQ)]) TB rfl mem1 un1) pa_nil)))
      (pss_cons (ps_expr (pe_meth (pv 1) N.cl mS GS hr bS .nil pass0 (pa_cons (pe_lamF (T := [(Pt, lamQ)]) TB rfl mem1 un1) pa_nil)))
      (pss_cons (ps_expr (pe_meth (pv 1) N.cl mS GS hr bS .nil pass0 (pa_cons (pe_lamF (T := [(Pt, lamQ)]) TB rfl mem1 un1) pa_nil)))
      (pss_one (ps_ret (pe_fld (pv 1) rfl)))))), ?_⟩
    refine ⟨_, rfl, fun x dx nx ndx nex => ?_⟩
    have s0 : Same H (upd (upd H dx (.own x)) x (.ins C dx [])) := fun b o e => by
      rw [upd_ne (ne_of_none e nx), upd_ne (ne_of_none e ndx)]
      exact e
    refine ⟨H, x, dx, a, ss, rfl, s0, nx, upd_same, SeqAt.same s0 hq, hl, fun H1 R E' rs pr s1 r0 e0 nm ri => ⟨rfl, ?_⟩⟩
    have T1 : Tabs [(Pt, lamQ)] H1 := hT.ext s1
    have hll : (rs.zip ss).length ≤ 100 := by
      rw [List.length_zip, ri.len]
      omega
    have inR : ∀ b o, H b = some o → b ∉ [R, E'] := fun b o e z => by
      rcases List.mem_cons.mp z with z | z
      · rw [z, r0] at e
        cases e
      · rw [List.mem_singleton.mp z, e0] at e
        cases e
    obtain ⟨dx1, hx1⟩ := nm.ins
    refine ⟨_, rfl, x, dx1, _, rfl, hx1, nf_no _ _ (by decide +kernel) (by decide +kernel), T1, fun f1 c1 H2 e2 T2 hf1 lg1 => ?_⟩
    refine ⟨x, f1, R, E', LamG f1 lamQ (lamP 1) (lamB 1) (lamC 1) c1, gtS, rkDS, [], rs.zip ss, rfl, nm.ext e2, run_lam1 T, lg1, fun _ _ n g => NL.lam g n, rdS, hll, Nat.zero_le _, fun H3 k1 l1 n1 kp1 nm1 ch1 as1 b1 => ?_⟩
    have x3 := ((ExT.of s1).trans e2).nl n1 kp1 inR
    have T3 := NL.tabs T2 n1
    have hl1 : l1.length ≤ 100 := by
      rw [ch1.perm.length_eq]
      exact hll
    obtain ⟨dx3, hx3⟩ := nm1.ins
    refine ⟨_, rfl, x, dx3, _, rfl, hx3, nf_no _ _ (by decide +kernel) (by decide +kernel), T3, fun f2 c2 H4 e4 T4 hf2 lg2 => ?_⟩
    refine ⟨x, f2, R, E', LamG f2 lamQ (lamP 2) (lamB 2) (lamC 2) c2, gtR, rkDR, [] ++ k1, l1, rfl, nm1.ext e4, run_lam2 T, lg2, fun _ _ n g => NL.lam g n, rdR, hl1, by rw [List.nil_append]; omega, fun H5 k2 l2 n2 kp2 nm2 ch2 as2 b2 => ?_⟩
    have x5 := (x3.trans e4).nl n2 kp2 inR
    have T5 := NL.tabs T4 n2
    have hl2 : l2.length ≤ 100 := by
      rw [ch2.perm.length_eq]
      exact hl1
    obtain ⟨dx5, hx5⟩ := nm2.ins
    refine ⟨_, rfl, x, dx5, _, rfl, hx5, nf_no _ _ (by decide +kernel) (by decide +kernel), T5, fun f3 c3 H6 e6 T6 hf3 lg3 => ?_⟩
    refine ⟨x, f3, R, E', LamG f3 lamQ (lamP 3) (lamB 3) (lamC 3) c3, gtL, rkDL, [] ++ k1 ++ k2, l2, rfl, nm2.ext e6, run_lam3 CK, lg3, fun _ _ n g => NL.lam g n, rdL, hl2, by rw [List.length_append, List.nil_append]; omega, fun H7 k3 l3 n3 kp3 nm3 ch3 as3 b3 => ?_⟩
    have x7 := (x5.trans e6).nl n3 kp3 inR
    have T7 := NL.tabs T6 n3
    obtain ⟨dx7, hx7⟩ := nm3.ins
    exact ⟨_, rfl, x, C, dx7, _, _, rfl, hx7, N.cl, N.nE, nf_exch _ _, k H7 E' (k1 ++ k2 ++ k3) x7 T7 e0 nm3.exch (nrm_of ri ch1 as1 ch2 ch3 as3)⟩

/-! ### derivation -/
def spDer (K : PySem.W.Frag) (Tb : List (Addr × Str)) : Sp := fun vs H Q _ => ∃ (a b : Addr) (ss tt : List Stp), vs = [.ref a, .ref b] ∧ SeqAt K H a ss ∧ SeqAt K H b tt ∧ ss.length ≤ 40 ∧ tt.length ≤ 40 ∧ Tabs Tb H ∧
  (eff ss ≠ eff tt → ∀ H', ExT H H' → Tabs Tb H' → Q .non H') ∧
  (eff ss = eff tt → ∀ H' p es, ExT H H' → Tabs Tb H' → H p = none → H' p = some (.lst (es.map fun n => V.int (n : Nat))) → Path ss es tt → es.length ≤ ss.length * ss.length → Q (.ref p) H')
theorem sc36 : FnScope ["sequence", "target"] ["sequence", "target"] (defScope (top 36)) := ⟨rfl, rfl, rfl, by decide +kernel, rfl, by decide +kernel, by decide +kernel⟩
theorem cal_der {Tb : List (Addr × Str)} (D : Def K mg "derivation" (top 36) ["sequence", "target"]) (T : Txt K mg) (CC : Cal P w K mg base 5 "check_sequence" (spChk K)) (CP : Cal P w K mg base 5 "parts_of" (spParts K)) (CN : Cal P w K mg base 5 "normalizing_exchanges" (spNE K Tb)) :
    Cal P w K mg base 6 "derivation" (spDer K Tb) := by
  refine D.cal sc36 (fun vs H Q E h => ?_) (fun f cdv A outer s H vs Q E hr h => ?_)
  · obtain ⟨a, b, ss, tt, rfl, _⟩ := h
    rfl
  · obtain ⟨a, b, ss, tt, rfl, ha, hb, la, lb, hT, k1, k2⟩ := h
    refine ⟨_, pss_cons (ps_expr (pe_cl CC hr (pa_cons (pv 0) pa_nil))) (pss_cons (ps_expr (pe_cl CC hr (pa_cons (pv 1) pa_nil)))
      (pss_cons (ps_if (pt_cmpR (op_neP hr.units) (pe_cl CP hr (pa_cons (pv 0) pa_nil)) (pe_cl CP hr (pa_cons (pv 1) pa_nil)) (nomark _)) (pss_one (ps_ret pe_non)) pss_nil)
      (pss_one (ps_ret (pe_op op_cat (pe_cl CN hr (pa_cons (pv 0) pa_nil)) (pe_revL (pe_cl CN hr (pa_cons (pv 1) pa_nil)))))))), ?_⟩
    refine ⟨_, rfl, a, ss, rfl, ha, la, fun H1 s1 => ?_⟩
    refine ⟨_, rfl, b, tt, rfl, hb.same s1, lb, fun H2 s2 => ?_⟩
    have s12 := s1.trans s2
    refine ⟨_, rfl, a, ss, rfl, ha.same s12, by omega, fun v3 H3 s3 e3 => ?_⟩
    refine ⟨_, rfl, b, tt, rfl, hb.same (s12.trans s3), by omega, fun v4 H4 s4 e4 => ?_⟩
    have s14 := (s12.trans s3).trans s4
    refine ⟨_, _, (e3.kept (TupK.of s4)).dp, e4.dp, plain_effD _, plain_effD _, Nat.le_trans (depth_effD _) (by decide), _, rfl, ?_⟩
    rw [eqv_dec eqv_effD]
    by_cases he : eff ss = eff tt
    · rw [decide_eq_true he]
      refine iteF ⟨_, rfl, a, ss, rfl, ha.same s14, by omega, hT.ext s14, fun H5 E1 es x5 T5 n5 h5 nr1 => ?_⟩
      have x15 : ExT H H5 := (ExT.of s14).trans x5
      refine ⟨_, rfl, b, tt, rfl, x15.seqAt hb, by omega, T5, fun H6 E2 js x6 T6 n6 h6 nr2 => ?_⟩
      have x16 := x15.trans x6
      obtain ⟨pth, pl⟩ := nrm_join nr1 nr2 he
      refine ⟨E2, _, rfl, .of h6, fun p hp => ?_⟩
      have sp := same_new (o := .lst (js.map fun n => V.int (n : Nat)).reverse) hp
      refine ⟨E1, p, _, _, rfl, rfl, sp _ _ (x6.1 _ _ h5 fun _ z => (nomatch z)), upd_same, ?_, fun p2 hp2 => ?_⟩
      · have e1 : ((js.map fun n => V.int (n : Nat)).reverse).length = js.reverse.length := by
          rw [List.length_reverse, List.length_map, List.length_reverse]
        rw [List.length_map, e1]
        have e2 : es.length + js.reverse.length ≤ ss.length * ss.length := by
          rw [← List.length_append]
          exact pl
        have e3 : ss.length * ss.length ≤ 40 * 40 := Nat.mul_le_mul la la
        rw [sizeLine_eq]
        omega
      · have sp2 := same_new (o := .lst ((es.map fun n => V.int (n : Nat)) ++ (js.map fun n => V.int (n : Nat)).reverse)) hp2
        have sall := (ExT.of sp).trans (ExT.of sp2)
        have xall := x16.trans sall
        have hp0 : H p2 = none := x16.free (sp.free hp2)
        refine k2 he _ p2 (es ++ js.reverse) xall ((T6.ext sp).ext sp2) hp0 ?_ pth pl
        rw [upd_same, ← List.map_reverse, ← List.map_append]
    · rw [decide_eq_false he]
      exact iteT (k1 he H4 (ExT.of s14) (hT.ext s14))
end
end HX
set_option Elab.async false
set_option linter.all false
set_option maxRecDepth 100000
set_option maxHeartbeats 1000000
/-! check_derivation. -/
namespace HX
open PySem PySem.Spec PyProof.Rows L2 LamX
theorem ints_dp {K : PySem.W.Frag} {H : Hp} : ∀ is : List Int, DpAll K H (is.map V.int) (is.map PyData.int)
  | [] => .nil
  | i :: is => .cons (.int i) (ints_dp is)
abbrev NI_ (es : List Nat) : List V := es.map fun n => V.int (n : Nat)
theorem nats_ints (es : List Nat) : NI_ es = (es.map fun n : Nat => (n : Int)).map V.int := by
  rw [List.map_map]
  rfl
theorem nats_get {es : List Nat} {i : Nat} {x : V} (h : (NI_ es)[i]? = some x) : ∃ k, es[i]? = some k ∧ x = .int (k : Nat) := by
  rw [List.getElem?_map] at h
  obtain ⟨k, h1, h2⟩ := Option.map_eq_some_iff.mp h
  exact ⟨k, h1, h2.symm⟩
theorem Path.len {ss tt : List Stp} {es : List Nat} (h : Path ss es tt) : tt.length = ss.length := h.perm.length_eq
section
variable {P : Program} {w : World} {K : PySem.W.Frag} {mg : Str → Option Value} {base : Heap}
def spCD (K : PySem.W.Frag) : Sp := fun vs H Q _ => ∃ (a b c : Addr) (ss tt mid : List Stp) (es : List Nat), vs = [.ref a, .ref b, .ref c] ∧ SeqAt K H a ss ∧ SeqAt K H b tt ∧ SqL K H c (NI_ es) ∧ Path ss es mid ∧ ss.length ≤ 40 ∧ tt.length ≤ 40 ∧ ∀ H', Same H H' → Q (.bl (decide (mid = tt))) H'
theorem sc37 : FnScope ["sequence", "target", "value", "current", "index"] ["sequence", "target", "value"] (defScope (top 37)) := ⟨rfl, rfl, rfl, by decide +kernel, rfl, by decide +kernel, by decide +kernel⟩
theorem cal_cd (D : Def K mg "check_derivation" (top 37) ["sequence", "target", "value"]) (T : Txt K mg) (CC : Cal P w K mg base 5 "check_sequence" (spChk K)) (CN : Cal P w K mg base 2 "is_count" spCount) (CA : Cal P w K mg base 6 "is_allowed" (spAllow K)) (CE : Cal P w K mg base 1 "exchanged" (spExch K)) :
    Cal P w K mg base 7 "check_derivation" (spCD K) := by
  refine D.cal sc37 (fun vs H Q E h => ?_) (fun f cdv A outer s H vs Q E hr h => ?_)
  · obtain ⟨a, b, c, ss, tt, mid, es, rfl, _⟩ := h
    rfl
  · obtain ⟨a, b, c, ss, tt, mid, es, rfl, ha, hb, hc, pth, la, lb, k⟩ := h
    refine ⟨_, pss_cons (ps_expr (pe_cl CC hr (pa_cons (pv 0) pa_nil))) (pss_cons (ps_expr (pe_cl CC hr (pa_cons (pv 1) pa_nil)))
      (pss_cons (ps_if (pt_not (pt_val (pe_callB call_isi_list rfl T.isi boot_isinstance (pa_cons (pv 2) (pa_cons (pe_bltn (v := .ty "list") rfl T.list boot_list rfl) pa_nil))))) pss_never pss_nil)
      (pss_cons (ps_set (i := 3) sc37.nd rfl (.inl rfl) (pe_callTy call_list_of rfl T.list boot_list (pa_cons (pv 0) pa_nil)))
      (pss_cons (ps_for PassesOwn.never rfl (pi_list (pv 2)) (pg_name (i := 4) sc37.nd rfl (.inl rfl))
        (pss_cons (ps_if (PW.pt (pw_or (pt_not (pt_val (pe_cl CN hr (pa_cons (pv 4) pa_nil)))) (pw_or (pt_cmpR op_ge (pe_op op_add (pv 4) pe_int) (pe_callB call_len_seq rfl T.len PySem.boot_len (pa_cons (pv 3) pa_nil)) (nomark _)) (pw_or1 (pt_not (pt_val (pe_cl CA hr (pa_cons (pv 3) (pa_cons (pv 4) pa_nil))))))))) pss_never pss_nil)
        (pss_one (ps_set (i := 3) sc37.nd rfl (.inl rfl) (pe_cl CE hr (pa_cons (pv 3) (pa_cons (pv 4) pa_nil)))))))
      (pss_one (ps_ret (pe_cmpR (op_eqP hr.units) (pv 3) (pv 1) (nomark _)))))))), ?_⟩
    refine ⟨_, rfl, a, ss, rfl, ha, la, fun H1 s1 => ?_⟩
    refine ⟨_, rfl, b, tt, rfl, hb.same s1, lb, fun H2 s2 => ?_⟩
    have s12 := s1.trans s2
    have hc2 := s12.seq hc
    rw [nats_ints] at hc2
    refine ⟨_, rfl, _, _, rfl, .lst hc2 (ints_dp _), _, rfl, ite_no (fun z => nomatch (show false = true from z)) ?_⟩
    rw [← nats_ints] at hc2
    obtain ⟨ts, g1, g2⟩ := ha.same s12
    refine ⟨_, rfl, a, _, rfl, .inl g1, fun d hd => ?_⟩
    have sd := same_new (o := .lst (ts.map V.ref)) hd
    have s13 := s12.trans sd
    refine ⟨_, rfl, c, rfl, ⟨_, s13.seq hc⟩, for_list (K := K) (a := c) (xs := NI_ es) (fun i σ H' => ∃ (d : Addr) (o : Option V) (cur : List Stp), σ = [some (.ref a), some (.ref b), some (.ref c), some (.ref d), o] ∧ Same H H' ∧ SeqAt K H' d cur ∧ Path ss (es.take i) cur)
      ⟨d, none, ss, rfl, s13, ⟨ts, .of upd_same, g2.kept (TupK.of sd)⟩, rfl⟩ (fun i σ H' _ ⟨_, _, _, _, sm, _⟩ => sm.seq hc) ?_ ?_⟩
    · rintro i x σ H' hi ⟨d, o, cur, rfl, sm, hcur, hp⟩
      obtain ⟨kk, hk, rfl⟩ := nats_get hi
      have ok := pth.at_ hk hp
      have okl := ok.lt
      have lc := hp.len
      obtain ⟨us, q1, q2⟩ := id hcur
      have lu : (us.map V.ref).length = cur.length := by rw [List.length_map, q2.length]
      refine ⟨_, rfl, (kk : Nat), rfl, _, rfl, ?_⟩
      rw [decide_eq_true (by omega)]
      refine ite_no (fun z => nomatch (show false = true from z)) ⟨_, rfl, _, _, rfl, rfl, _, rfl, d, _, rfl, .inl q1, _, _, rfl, rfl, _, rfl, ?_⟩
      rw [decide_eq_false (by omega)]
      refine iteF ⟨_, rfl, _, rfl, d, cur, kk, rfl, hcur, ok, by omega, fun H3 s3 => ⟨_, rfl, ite_no (fun z => nomatch (show false = true from z)) ?_⟩⟩
      refine ⟨_, rfl, _, rfl, d, _, kk, rfl, s3.seq q1, by omega, by omega, fun p H4 s4 hp0 hP => ?_⟩
      refine ⟨p, _, swp cur kk, rfl, (sm.trans s3).trans s4, .swp okl (q2.kept (TupK.of (s3.trans s4))) hP, ?_⟩
      rw [take_snoc hk]
      exact hp.append ⟨ok, rfl⟩
    · rintro σ H' ⟨d, o, cur, rfl, sm, hcur, hp⟩
      have el : (NI_ es).length = es.length := List.length_map _
      rw [el, List.take_length] at hp
      have ecur : cur = mid := by
        have uniq : ∀ {ks : List Nat} {a b b' : List Stp}, Path a ks b → Path a ks b' → b = b' := by
          intro ks
          induction ks with
          | nil => intro a b b' h h'; exact (show a = b from h).symm.trans (show a = b' from h')
          | cons k ks ih => intro a b b' h h'; exact ih h.2 h'.2
        exact uniq hp pth
      subst ecur
      refine ⟨_, rfl, _, rfl, _, _, hcur.dp, (hb.same sm).dp, plain_seqD _, plain_seqD _, Nat.le_trans (depth_seqD _) (by decide), ?_⟩
      rw [eqv_dec eqv_seqD]
      exact k _ sm
end
end HX
set_option Elab.async false
set_option linter.all false
set_option maxRecDepth 100000
set_option maxHeartbeats 1000000
/-! set(list of ints), sorted of it. -/
namespace HX
open PySem PySem.Spec PyProof.Rows L2
section
variable {P : Program} {w : World} {A : Around} {E : Value → Shared → Prop} {s : Shared}
set_option maxRecDepth 100000 in
set_option maxHeartbeats 3200000 in
theorem call_set_lstI {l : Addr} {items : Array Value} (ns : List Int) {Q : Value → Shared → Prop} (hh : A.handled = none) (hl : s.heap.IsList l items) (hit : IntsAre items.toList ns) (hb : ns.length + 1 < scanBound)
    (h : ∀ (h' : Heap) (tk c : Nat), SetR w h' s.heap.objs.size (fun j => decide (j ∈ ns)) c → c ≤ ns.length → (∀ b o, s.heap.get? b = some o → h'.get? b = some o) → Q (.ref s.heap.objs.size) { s with heap := h', toks := tk }) :
    wpAny (model P w) A (call (.type "set") [.ref l]) Q E s := by
  have hisz : items.size = ns.length := by
    have q := IntsAre.length hit
    rw [Array.length_toList] at q
    exact q
  obtain ⟨c, tl, hmro⟩ := F.called_set.mro
  have hmade := F.called_set.made
  have hsub := F.called_set.sub
  refine wpAny_call (codeAny_of_tree ?_)
  show wpAny _ _ (callAny (.type "set") _) _ _ _
  refine wpAny_pure ⟨Code.quiet_builtin _ (by decide +kernel), codeAny_builtin F.entry_type_call ?_⟩
  rw [Around.under_plain (weight_type_call_type "set" [.ref l] []) rfl]
  have h1 := F.called_set.notType
  have h2 := F.called_set.canCreate
  have hct := F.typeCall_set_1 (.ref l)
  repeat (any_goals (first | assumption | wp_step))

  refine codeAny_mono (code_set_led1 (.ref l) (E := E) (Q₁ := fun obj s₁ => obj = .ref s.heap.objs.size ∧ s₁ = { s with heap := s.heap.push { cls := .type "set", dict := none, data := .set #[] 0 (.fresh 0 0 (!w.params.followText "set-order")) } }) ⟨rfl, rfl⟩) fun r s₁ hr => ?_
  cases r with
  | error e => exact hr
  | ok fl =>
    cases fl with
    | ret obj =>
      obtain ⟨rfl, rfl⟩ := hr
      have hS : (s.heap.push { cls := .type "set", dict := none, data := .set #[] 0 (.fresh 0 0 (!w.params.followText "set-order")) }).get? s.heap.objs.size = some { cls := .type "set", dict := none, data := .set #[] 0 (.fresh 0 0 (!w.params.followText "set-order")) } := Heap.get?_push_size _ rfl
      have hT : Shared.TypeIs { s with heap := s.heap.push { cls := .type "set", dict := none, data := .set #[] 0 (.fresh 0 0 (!w.params.followText "set-order")) } } (.ref s.heap.objs.size) "set" := ⟨_, hS, rfl⟩
      have hli := F.called_set.init.lookup
      have hbi := F.called_set.init.bind (.ref s.heap.objs.size)
      repeat (any_goals (first | assumption | wp_step))

      refine codeAny_mono (codeAny_call_builtin (R := wants (fun r s₂ => r = .none ∧ ∃ h' tk c, s₂ = { s with heap := h', toks := tk } ∧ SetR w h' s.heap.objs.size (fun j => decide (j ∈ ns)) c ∧ c ≤ ns.length ∧
          (∀ b o, s.heap.get? b = some o → h'.get? b = some o)) E) F.called_set.init.plain F.entry_set_init (check_set_init_1 hT ?_)) fun r₂ s₂ hr₂ => ?_
      · obtain ⟨ol, hol, hcl, nl, hdl⟩ := hl
        obtain ⟨ocls, odict, odata, oslots⟩ := ol
        simp only at hcl hdl
        subst hcl; subst hdl
        have hol' : (s.heap.push { cls := .type "set", dict := none, data := .set #[] 0 (.fresh 0 0 (!w.params.followText "set-order")) }).get? l = some { cls := .type "list", dict := odict, data := .seq items nl, slots := oslots } := Heap.get?_push_of_some _ hol
        have hsls := F.sub_list_set
        have hslf := F.sub_list_frozenset
        have hne : (Value.type "list" == Value.type "dict") = false := by decide
        have hl1 : (s.heap.push { cls := .type "set", dict := none, data := .set #[] 0 (.fresh 0 0 (!w.params.followText "set-order")) }).IsList l items := ⟨_, hol', rfl, nl, rfl⟩
        unfold Builtin.«set.__init__» noKeywords Builtin.Frozenset.updateFrom
        generalize hPI : pyIter = PI
        wp_walk
        subst hPI

        refine wpAny_pyIter_list hl1 ?_
        refine wpAny_bind (wpAny_runValue ?_)
        have hlS : l < s.heap.objs.size := Heap.lt_size hol
        have hh3 : A.in1.in1.in1.handled = none := by simp [hh]
        have hz1 : (s.heap.push { cls := .type "set", dict := none, data := .set #[] 0 (.fresh 0 0 (!w.params.followText "set-order")) }).objs.size = s.heap.objs.size + 1 := Heap.size_push ..
        have hneI : l ≠ (s.heap.push { cls := .type "set", dict := none, data := .set #[] 0 (.fresh 0 0 (!w.params.followText "set-order")) }).objs.size := by
          rw [Heap.size_push]; exact Nat.ne_of_lt (Nat.lt_succ_of_lt hlS)
        have hSf : s.heap.objs.size ∉ [(s.heap.push { cls := .type "set", dict := none, data := .set #[] 0 (.fresh 0 0 (!w.params.followText "set-order")) }).objs.size, l] := by
          rw [Heap.size_push]; simp only [List.mem_cons, List.mem_singleton, List.not_mem_nil, or_false, not_or]
          exact ⟨Nat.ne_of_lt (Nat.lt_succ_self _), Nat.ne_of_gt hlS⟩
        have hval : ∀ (i : Nat) (v : Value), items[i]? = some v → ∃ k t, ns[i]? = some k ∧ v = .int k t := fun i v hv => by
          have hi : i < ns.length := by rw [← hisz]; exact (Array.getElem?_eq_some_iff.mp hv).1
          obtain ⟨t, e⟩ := PyProof.Rows.IntsAre.int_at hit i v (by rw [Array.getElem?_toList]; exact hv)
          refine ⟨ns[i], t, List.getElem?_eq_getElem hi, ?_⟩
          rw [e, List.getD_eq_getElem?_getD, List.getElem?_eq_getElem hi] <;> rfl
        refine set_update_ints ((Walks.list hh3 _ l hneI items).toS) s.heap.objs.size
          hSf ns hisz hb hval (items.size - 0) 0 _ (by omega) (Nat.zero_le _)
          ⟨⟨_, Heap.get?_push_size _ rfl, rfl, rfl⟩, (hl1.push _)⟩ ?hS0 ?hR
        case hS0 =>
          have hget : ((s.heap.push { cls := .type "set", dict := none, data := .set #[] 0 (.fresh 0 0 (!w.params.followText "set-order")) }).push { cls := .type "list_iterator", data := .fields #[.ref l, .int 0 0] }).get? s.heap.objs.size
              = some { cls := .type "set", dict := none, data := .set #[] 0 (.fresh 0 0 (!w.params.followText "set-order")) } := Heap.get?_push_of_some _ hS
          exact ⟨0, Nat.le_refl 0, setR_new_at hget⟩
        case hR =>
          intro s' c' hm hc' hS'
          obtain ⟨h', g2, d', tk', os'⟩ := s'
          have eg : g2 = s.gens := hm.gens
          have ed : d' = s.drawn := hm.drawn
          have eo : os' = s.os := hm.os
          subst eg; subst ed; subst eo
          show wpAny _ _ _ _ _ _
          refine wpAny_pure ?_
          show wpAny _ _ (ret Value.none) _ _ _
          rw [hisz] at hc'
          refine wpAny_pure ⟨rfl, h', tk', c', rfl, hS', hc', fun b o e => ?_⟩
          have hb0 : b < s.heap.objs.size := Heap.lt_size e
          have hb1 : b ≠ s.heap.objs.size := Nat.ne_of_lt hb0
          have hb2 : b ≠ (s.heap.push { cls := .type "set", dict := none, data := .set #[] 0 (.fresh 0 0 (!w.params.followText "set-order")) }).objs.size := by
            rw [Heap.size_push]; exact Nat.ne_of_lt (Nat.lt_succ_of_lt hb0)
          exact hm.heap b o (by simp only [List.mem_cons, List.mem_singleton, List.not_mem_nil, or_false, not_or]; exact ⟨hb1, hb2⟩) (Heap.get?_push_of_some _ (Heap.get?_push_of_some _ e))

      · cases r₂ with
        | error e => exact hr₂
        | ok fl₂ =>
          cases fl₂ with
          | ret r =>
            obtain ⟨rfl, h', tk, c', rfl, hS', hc', hk'⟩ := hr₂
            repeat (any_goals (first | assumption | wp_step))
            exact h _ _ _ hS' hc' hk'
          | _ => exact hr₂.elim
    | _ => exact hr.elim

end
end HX
set_option Elab.async false
set_option linter.all false
set_option maxRecDepth 100000
set_option maxHeartbeats 1000000
/-! set(list of ints), sorted of it: the rules. -/
namespace HX
open PySem PySem.Spec PyProof.Rows L2
section
variable {X : Cx}
def rSetLI (K : PySem.W.Frag) (w : World) : List V → Hp → VK → Prop := fun xs H Q => ∃ (a : Addr) (ns : List Int), xs = [.ref a] ∧ SqL K H a (ns.map V.int) ∧ ns.length < 63 ∧ ∀ p c, H p = none → c ≤ ns.length → Q (.ref p) (upd H p (SetO w p (fun j => decide (j ∈ ns)) c))
theorem cr_setLI (hc : X.calm = true) : CallR X (.type "set") (rSetLI X.K X.w) := by
  intro pins s σ H xs us Q I r h
  obtain ⟨a, ns, rfl, hs, hn, q⟩ := h
  rw [Vals.ref1 r]
  obtain ⟨its, rv, hl, hz⟩ := I.list hs
  have hi := Vals.ints rv
  refine call_set_lstI ns (I.ok.hd hc) hl.isList (by simpa using hi) (by unfold scanBound; omega) fun h' tk c R hc' hk => ?_
  exact ⟨.ref s.heap.objs.size, _, I.laid (t' := tk) hk (Nat.le_refl _) (setO_new R), rfl, q _ c (I.hok.fresh (Nat.le_refl _)) hc'⟩
def rSortSet (w : World) : List V → Hp → VK → Prop := fun xs H Q => ∃ (a : Addr) (S : Int → Bool) (n : Nat), xs = [.ref a] ∧ H a = some (SetO w a S n) ∧ n < 64 ∧
  ∀ p (ns : List Int), H p = none → ns.Pairwise (· < ·) → (∀ k, k ∈ ns ↔ S k = true) → Q (.ref p) (upd H p (.lst (ns.map V.int)))
theorem cr_sortSet (hc : X.calm = true) : CallR X (.builtin "sorted") (rSortSet X.w) := by
  intro pins s σ H xs us Q I r h
  obtain ⟨a, S, n, rfl, hs, hn, q⟩ := h
  rw [Vals.ref1 r]
  refine sorted_set (setO_get I hs) (I.ok.hd hc) hn fun s' p out c ns hk hg ho hp hget hints hasc hmem hlen => ?_
  have ei : out.toList.toArray = out := Array.toArray_toList
  have new : ObjOk X.prog X.w (upd H p (.lst (ns.map V.int))) s'.heap p (.lst (ns.map V.int)) := by
    refine ⟨?_, out.toList, c, vals_of_ints hints, ?_⟩
    · rw [List.length_map, hlen]
      exact le1000 (by omega)
    · rw [ei]
      exact hget
  exact ⟨.ref p, _, I.call' (ch := []) ho (Un.laid hk hp (I.hok.fresh hp)) (I.hok.laid hk hp new) (by rw [hg]; exact I.bare) (fun b z => absurd z (by simp)), rfl, q p ns (I.hok.fresh hp) hasc hmem⟩
end
end HX
set_option Elab.async false
set_option linter.all false
set_option maxRecDepth 100000
set_option maxHeartbeats 1000000
/-! The law's own bags, triples, lists. -/
namespace HX
open PySem PySem.Spec PyProof.Rows L2 LamX
theorem take_all {α : Type} {l : List α} {n : Nat} (h : n = l.length) : l.take n = l := by rw [h, List.take_length]
theorem bag_keys {ks ns : List Int} (a : ks.Pairwise (· < ·)) (m : ∀ k, k ∈ ks ↔ k ∈ ns) : ks.map (fun k => (k, (ns.count k : Int))) = bag ns := by
  refine bag_of ⟨?_, fun n c => ?_⟩
  · rw [List.pairwise_map]
    exact a
  · rw [List.mem_map]
    constructor
    · rintro ⟨k, hk, e⟩
      have e1 : k = n := congrArg Prod.fst e
      have e2 : (ns.count k : Int) = c := congrArg Prod.snd e
      subst e1
      have := List.count_pos_iff.mpr ((m k).mp hk)
      omega
    · rintro ⟨h1, h2⟩
      have h3 : 0 < ns.count n := by omega
      exact ⟨n, (m n).mpr (List.count_pos_iff.mp h3), by rw [h2]⟩
def flat (B : List (Int × Int)) : List Int := (B.map fun p => List.replicate p.2.toNat p.1).flatten
theorem flat_snoc (B : List (Int × Int)) (p : Int × Int) : flat (B ++ [p]) = flat B ++ List.replicate p.2.toNat p.1 := by
  unfold flat
  rw [List.map_append, List.flatten_append]
  simp
theorem rle_pos : ∀ ys : List Int, ∀ p ∈ rle ys, 0 < p.2
  | [], _, h => by cases h
  | x :: r, p, h => by
    have ih := rle_pos r
    unfold rle at h
    split at h
    · rw [List.mem_singleton.mp h]
      exact Int.zero_lt_one
    · rename_i y c t e
      rw [e] at ih
      have hc : 0 < c := ih (y, c) List.mem_cons_self
      split at h
      · rcases List.mem_cons.mp h with z | z
        · rw [z]
          show 0 < c + 1
          omega
        · exact ih p (List.mem_cons_of_mem _ z)
      · rcases List.mem_cons.mp h with z | z
        · rw [z]
          exact Int.zero_lt_one
        · exact ih p z
theorem flat_rle : ∀ ys : List Int, flat (rle ys) = ys
  | [] => rfl
  | x :: r => by
    have ih := flat_rle r
    have hp := rle_pos r
    unfold rle
    split
    · rename_i e
      rw [e] at ih
      rw [← ih]
      rfl
    · rename_i y c t e
      rw [e] at ih hp
      have hc : 0 < c := hp (y, c) List.mem_cons_self
      have e1 : flat ((y, c) :: t) = List.replicate c.toNat y ++ flat t := rfl
      split
      · rename_i exy
        have e2 : flat ((y, c + 1) :: t) = List.replicate (c + 1).toNat y ++ flat t := rfl
        rw [e2, show (c + 1).toNat = c.toNat + 1 by omega, List.replicate_succ, exy, ← ih, e1]
        rfl
      · have e2 : flat ((x, 1) :: (y, c) :: t) = [x] ++ flat ((y, c) :: t) := rfl
        rw [e2, ih]
        rfl
theorem flat_bag (xs : List Int) : flat (bag xs) = sortI xs := flat_rle _
theorem sortI_len (xs : List Int) : (sortI xs).length = xs.length := (sortI_perm xs).length_eq
theorem sortI_of {xs : List Int} (u : Up xs) : sortI xs = xs := up_eq (sortI_up xs) u (sortI_perm xs)
theorem flat_take_le (B : List (Int × Int)) (i : Nat) : (flat (B.take i)).length ≤ (flat B).length := by
  have e : flat B = flat (B.take i) ++ flat (B.drop i) := by
    unfold flat
    rw [← List.flatten_append, ← List.map_append, List.take_append_drop]
  rw [e, List.length_append]
  omega
theorem put_sorted {ns : List Int} {v : Int} {h : List Int} (u : Up h) (p : ns.Perm (h ++ [v])) (a : ns.Pairwise (· ≤ ·)) : ns = put v h :=
  up_eq a (put_up v u) (p.trans ((List.perm_append_comm (l₁ := h) (l₂ := [v])).trans (put_perm v h).symm))
section
variable {P : Program} {w : World} {K : PySem.W.Frag} {mg : Str → Option Value} {base : Heap}
def spLBag (K : PySem.W.Frag) : Sp := fun vs H Q _ => ∃ (a : Addr) (ns : List Int), vs = [.ref a] ∧ SqL K H a (ns.map V.int) ∧ ns.length ≤ 60 ∧ ∀ v H', Same H H' → BagAt K H' v (bag ns) → Q v H'
theorem sc42 : FnScope ["_law_numbers", "_law_number"] ["_law_numbers"] (defScope (top 42)) := ⟨rfl, rfl, rfl, by decide +kernel, rfl, by decide +kernel, by decide +kernel⟩
theorem cal_lbag (D : Def K mg "_law_bag" (top 42) ["_law_numbers"]) (T : Txt K mg) : Cal P w K mg base 1 "_law_bag" (spLBag K) := by
  refine D.cal sc42 (fun vs H Q E h => ?_) (fun f cdv A outer s H vs Q E hr h => ?_)
  · obtain ⟨a, ns, rfl, _⟩ := h
    rfl
  · obtain ⟨a, ns, rfl, hq, hl, k⟩ := h
    refine ⟨_, pss_one (ps_ret (pe_callTy cr_tupF rfl T.tuple boot_tuple (pa_cons
      (pe_lc (own := [("_law_number", 1)]) (g := gName 1) (tt := tYes) (te := tTup (tCons (tVar 1) (tCons (tBM K "list" (rCntI K) (tVar 0) (tCons (tVar 1) tNil)) tNil))) rfl sc42.nd (pi_list (pe_callB (cr_sortSet rfl) rfl T.sorted boot_sorted (pa_cons (pe_callTy (cr_setLI rfl) rfl T.set boot_set (pa_cons (pv 0) pa_nil)) pa_nil)))
        (blkOk_by (N := ["_law_numbers", "_law_number"]) (sc := defScope (top 42)) (by decide +kernel))
        (fun _ _ _ _ _ => pg_name (i := 1) sc42.nd rfl (.inl rfl)) (fun _ _ _ _ _ => pts_nil)
        (fun _ _ _ _ _ => pe_tup (pa_cons (pv 1) (pa_cons (pe_bm PySem.F.plainAttrs_list PySem.F.slot_list_count PySem.F.type_list_count mt_lcount (pv 0) (pa_cons (pv 1) pa_nil)) pa_nil)))) pa_nil))), ?_⟩
    refine ⟨_, rfl, a, ns, rfl, hq, by omega, fun p c hp hc => ?_⟩
    have s1 := same_new (o := SetO w p (fun j => decide (j ∈ ns)) c) hp
    refine ⟨p, _, c, rfl, upd_same, by omega, fun p2 ks hp2 asc mem => ?_⟩
    have s2 := same_new (o := .lst (ks.map V.int)) hp2
    have s12 := s1.trans s2
    have hk : upd (upd H p (SetO w p (fun j => decide (j ∈ ns)) c)) p2 (.lst (ks.map V.int)) p2 = some (.lst (ks.map V.int)) := upd_same
    refine ⟨p2, rfl, ⟨_, .of hk⟩, fun L hL => ?_⟩
    have klen : ks.length ≤ 1000 := by
      have e1 := bag_keys asc fun k => (mem k).trans ⟨fun z => of_decide_eq_true z, fun z => decide_eq_true z⟩
      have e2 := bag_len ns
      have e3 := congrArg List.length e1
      rw [List.length_map] at e3
      omega
    refine lc_list (K := K) (a := p2) (xs := ks.map V.int) (fun i H' => Same (upd (upd H p (SetO w p (fun j => decide (j ∈ ns)) c)) p2 (.lst (ks.map V.int))) H' ∧ ∃ ts, H' L = some (.lst (ts.map V.ref)) ∧ Prs K H' ts ((ks.take i).map fun k => (k, (ns.count k : Int))))
      ⟨same_new hL, [], upd_same, .nil⟩ (fun i H' _ h => h.1.seq (.of hk)) ?_ ?_
    · rintro i x H' hi ⟨sm, ts, hT, hpr⟩
      rw [List.getElem?_map] at hi
      obtain ⟨z, hz, rfl⟩ := Option.map_eq_some_iff.mp hi
      have lT := hpr.length
      rw [List.length_map, List.length_take] at lT
      have hq' := (s12.trans sm).seq hq
      refine ⟨rfl, _, rfl, _, rfl, .inl ⟨rfl, _, hq'⟩, _, rfl, a, ns, z, rfl, rfl, hq', (by show 2 ≤ sizeLine; decide), fun q hq2 => ⟨ts.map V.ref, ?_, ?_, ?_⟩⟩
      · rw [upd_ne (ne_of_none hT hq2)]
        exact hT
      · rw [List.length_map]
        have := (List.getElem?_eq_some_iff.mp hz).1
        exact lt1000 (by omega)
      · refine ⟨Same.over (sm.trans (same_new hq2)) hL, ts ++ [q], by rw [upd_same, List.map_append]; rfl, ?_⟩
        rw [take_snoc hz, List.map_append]
        refine paired_snoc (hpr.kept (tupk_app hT hq2)) (.of ?_)
        rw [upd_ne (ne_of_none hT hq2).symm, upd_same]
    · rintro H' ⟨sm, ts, hT, hpr⟩
      rw [take_all (List.length_map _), bag_keys asc fun k => (mem k).trans ⟨fun z => of_decide_eq_true z, fun z => decide_eq_true z⟩] at hpr
      refine ⟨L, ts.map V.ref, rfl, .of hT, fun l o hl hc ho => ?_⟩
      exact k _ _ ((s12.trans sm).trans (same_new hl)) ⟨l, ts, rfl, .inl ⟨o, upd_same, hc, ho⟩, hpr.kept (TupK.of (same_new hl))⟩

def spTriple (K : PySem.W.Frag) : Sp := fun vs H Q _ => ∃ (a : Addr) (ss : List Stp), vs = [.ref a] ∧ SeqAt K H a ss ∧ ss.length ≤ 40 ∧ ∀ v H', Same H H' → EffAt K H' v (eff ss) → Q v H'
theorem sc43 : FnScope ["_law_steps_here", "_law_step", "_law_inserted", "_law_present"] ["_law_steps_here"] (defScope (top 43)) := ⟨rfl, rfl, rfl, by decide +kernel, rfl, by decide +kernel, by decide +kernel⟩
theorem stepW : ∀ s : Stp, ∃ x, atI (stepV s) 0 = some (.str x) ∧ decide (V.str x = .str "insert") = decide (remS s = 0)
  | .ins v => ⟨"insert", rfl, (decide_eq_true rfl).trans (decide_eq_true rfl).symm⟩
  | .rem => ⟨"remove", rfl, by decide +kernel⟩
theorem insd_take {ss : List Stp} {i : Nat} {s : Stp} (h : ss[i]? = some s) : insd (ss.take (i + 1)) = insd (ss.take i) ++ insS s := by
  rw [take_snoc h, insd_append]
  cases s <;> rfl
theorem cal_triple (D : Def K mg "_law_triple" (top 43) ["_law_steps_here"]) (T : Txt K mg) (CB : Cal P w K mg base 1 "_law_bag" (spLBag K)) : Cal P w K mg base 2 "_law_triple" (spTriple K) := by
  refine D.cal sc43 (fun vs H Q E h => ?_) (fun f cdv A outer s H vs Q E hr h => ?_)
  · obtain ⟨a, ss, rfl, _⟩ := h
    rfl
  · obtain ⟨a, ss, rfl, hq, hl, k⟩ := h
    refine ⟨_, pss_cons (ps_setLc (i := 2) (own := [("_law_step", 1)]) (g := gName 1) (tt := tTest (tOp rEq (tOp (rIxT K) (tVar 1) (tC (.int 0))) (tC (.str "insert")))) (te := tOp (rIxT K) (tVar 1) (tC (.int 1))) rfl sc43.nd rfl rfl (sw_true rfl rfl rfl (by decide +kernel)) (pi_list (pv 0)) (blkOk_by (N := ["_law_steps_here", "_law_step", "_law_inserted", "_law_present"]) (sc := defScope (top 43)) (by decide +kernel))
        (fun _ _ _ _ _ => pg_name (i := 1) sc43.nd rfl (.inl rfl)) (fun _ _ _ _ _ => pts_one (pt_cmpR op_eq (pe_ix ix_tup (pv 1) pe_int (fun _ _ => rfl)) pe_str (nomark _))) (fun _ _ _ _ _ => pe_ix ix_tup (pv 1) pe_int (fun _ _ => rfl)))
      (pss_cons (ps_set (i := 3) sc43.nd rfl (.inl rfl) (pe_lst pa_nil))
      (pss_cons (ps_for PassesOwn.never rfl (pi_list (pv 0)) (pg_name (i := 1) sc43.nd rfl (.inl rfl))
        (pss_one (ps_if (pt_cmpR op_eq (pe_ix ix_tup (pv 1) pe_int (fun _ _ => rfl)) pe_str (nomark _))
          (pss_one (ps_set (i := 3) sc43.nd rfl (.inl rfl) (pe_callB cr_sorted rfl T.sorted boot_sorted (pa_cons (pe_op op_cat (pv 3) (pe_lst (pa_cons (pe_ix ix_tup (pv 1) pe_int (fun _ _ => rfl)) pa_nil))) pa_nil))))
          (pss_one (ps_set (i := 3) sc43.nd rfl (.inl rfl) (pe_slice sl_list (pv 3) (po_some pe_int) po_none))))))
      (pss_one (ps_ret (pe_tup (pa_cons (pe_cl CB hr (pa_cons (pv 2) pa_nil)) (pa_cons (pe_op op_sub (pe_callB call_len_seq rfl T.len PySem.boot_len (pa_cons (pv 0) pa_nil)) (pe_callB call_len_seq rfl T.len PySem.boot_len (pa_cons (pv 2) pa_nil))) (pa_cons (pe_cl CB hr (pa_cons (pv 3) pa_nil)) pa_nil)))))))), ?_⟩
    obtain ⟨ts, h1, h2⟩ := id hq
    have lt : (ts.map V.ref).length = ss.length := by rw [List.length_map, h2.length]
    have hil := insd_le ss
    have hsl := surv_le ss
    refine ⟨_, rfl, a, rfl, ⟨_, h1⟩, fun L hL => ?_⟩
    refine lc_list (K := K) (a := a) (xs := ts.map V.ref) (fun i H' => Same H H' ∧ H' L = some (.lst ((insd (ss.take i)).map V.int))) ⟨same_new hL, upd_same⟩ (fun i H' _ h => h.1.seq h1) ?_ ?_
    · rintro i x H' hi ⟨sm, hT⟩
      obtain ⟨t, s, rfl, hp, hq⟩ := stps_get (h2.kept (TupK.of sm)) hi
      obtain ⟨wd, e1, e2⟩ := stepW s
      refine ⟨rfl, _, rfl, t, _, 0, _, rfl, rfl, hq, e1, rfl, _, rfl, ?_⟩
      rw [e2]
      have li := insd_le (ss.take i)
      have l2 := List.length_take_le' i ss
      cases s with
      | ins v =>
        refine ite_yes (decide_eq_true rfl) ⟨_, rfl, t, _, 1, .int v, rfl, rfl, hq, rfl, _, hT, ?_, Same.over sm hL, ?_⟩
        · rw [List.length_map]
          exact lt1000 (by omega)
        · rw [upd_same, insd_take hp, List.map_append]
          rfl
      | rem =>
        refine ite_no (by decide) ⟨sm, ?_⟩
        rw [insd_take hp, List.map_append]
        show _ = some (HO.lst (_ ++ []))
        rw [List.append_nil]
        exact hT
    · rintro H1 ⟨s1, hI⟩
      rw [take_all lt] at hI
      refine ⟨Nat.zero_le _, fun Pn hPn => ?_⟩
      have sP := same_new (o := .lst []) hPn
      refine ⟨_, rfl, a, rfl, ⟨_, (s1.trans sP).seq h1⟩, for_list (K := K) (a := a) (xs := ts.map V.ref) (fun i σ H' => ∃ (o : Option V) (p : Addr), σ = [some (.ref a), o, some (.ref L), some (.ref p)] ∧ Same H1 H' ∧ H' p = some (.lst ((surv (ss.take i)).map V.int)))
        ⟨none, Pn, rfl, sP, upd_same⟩ (fun i σ H' _ ⟨_, _, _, sm, _⟩ => (s1.trans sm).seq h1) ?_ ?_⟩
      · rintro i x σ H' hi ⟨o, p, rfl, sm, hp⟩
        obtain ⟨t, s, rfl, hs, hq⟩ := stps_get (h2.kept (TupK.of (s1.trans sm))) hi
        obtain ⟨wd, e1, e2⟩ := stepW s
        have ls := surv_le (ss.take i)
        have l2 := List.length_take_le' i ss
        refine ⟨_, rfl, t, _, 0, _, rfl, rfl, hq, e1, rfl, _, rfl, ?_⟩
        rw [e2]
        cases s with
        | ins v =>
          refine ite_yes (decide_eq_true rfl) ⟨_, rfl, _, rfl, t, _, 1, .int v, rfl, rfl, hq, rfl, (by show 1 ≤ sizeLine; decide), fun q hq2 => ?_⟩
          have s3 := same_new (o := .lst [V.int v]) hq2
          refine ⟨p, q, _, _, rfl, rfl, s3 _ _ hp, upd_same, ?_, fun q2 hq3 => ?_⟩
          · rw [List.length_map]
            exact le1000 (by have : [V.int v].length = 1 := rfl; omega)
          · have s4 := same_new (o := .lst ((surv (ss.take i)).map V.int ++ [V.int v])) hq3
            refine ⟨q2, surv (ss.take i) ++ [v], rfl, .of (by rw [upd_same, List.map_append]; rfl), by rw [List.length_append]; have : [v].length = 1 := rfl; omega, fun ns' q3 pm asc hq4 => ?_⟩
            refine ⟨_, q3, rfl, ((sm.trans s3).trans s4).trans (same_new hq4), ?_⟩
            rw [upd_same, put_sorted (surv_up _) pm asc, take_snoc hs, surv_snoc]
            rfl
        | rem =>
          refine ite_no (by decide) ⟨_, rfl, 1, rfl, p, _, rfl, .of hp, fun q hq2 => ?_⟩
          refine ⟨_, q, rfl, sm.trans (same_new hq2), ?_⟩
          have ec := cut_hi ((surv (ss.take i)).map V.int) 1
          rw [upd_same]
          have ec2 : cutV ((surv (ss.take i)).map V.int) (some (1 : Int)) none = ((surv (ss.take i)).map V.int).drop 1 := ec
          rw [ec2, take_snoc hs, surv_snoc, ← List.map_drop, List.drop_one]
          rfl
      · rintro σ H2 ⟨o, p, rfl, s2, hp⟩
        rw [take_all lt] at hp
        have s12 := s1.trans s2
        refine ⟨_, rfl, L, _, rfl, .of (s2 _ _ hI), by omega, fun v3 H3 s3 b3 => ?_⟩
        refine ⟨_, rfl, a, _, rfl, .inl ((s12.trans s3).seq h1), _, rfl, L, _, rfl, .inl (.of (s3 _ _ (s2 _ _ hI))), _, _, rfl, rfl, ?_⟩
        refine ⟨_, rfl, p, _, rfl, .of (s3 _ _ hp), by omega, fun v4 H4 s4 b4 => ⟨(by show 3 ≤ sizeLine; decide), fun q hq3 => ?_⟩⟩
        have en : ((ts.map V.ref).length : Int) - (((insd ss).map V.int).length : Int) = (nrem ss : Nat) := by
          have := len_split ss
          rw [lt, List.length_map]
          omega
        have s5 := same_new (o := .tup [v3, .int (((ts.map V.ref).length : Int) - (((insd ss).map V.int).length : Int)), v4]) hq3
        refine k _ _ (((s12.trans s3).trans s4).trans s5) ⟨q, v3, v4, rfl, .of ?_, (b3.kept (TupK.of s4)).kept (TupK.of s5), b4.kept (TupK.of s5)⟩
        rw [upd_same]
        show some (HO.tup [v3, .int (((ts.map V.ref).length : Int) - (((insd ss).map V.int).length : Int)), v4]) = some (HO.tup [v3, .int ((nrem ss : Nat) : Int), v4])
        rw [en]
end
end HX
set_option Elab.async false
set_option linter.all false
set_option maxRecDepth 100000
set_option maxHeartbeats 1000000
/-! The law's swapped, list, normal. -/
namespace HX
open PySem PySem.Spec PyProof.Rows L2 LamX
theorem rep_flat (n : Int) : ∀ k : Nat, (List.replicate k [V.int n]).flatten = (List.replicate k n).map V.int
  | 0 => rfl
  | k + 1 => by
    rw [List.replicate_succ, List.replicate_succ, List.flatten_cons, rep_flat n k]
    rfl
theorem rep_ref (t : Addr) : ∀ k : Nat, (List.replicate k [V.ref t]).flatten = (List.replicate k t).map V.ref
  | 0 => rfl
  | k + 1 => by
    rw [List.replicate_succ, List.replicate_succ, List.flatten_cons, rep_ref t k]
    rfl
theorem bag_le {xs : List Int} {p : Int × Int} (h : p ∈ bag xs) : 0 < p.2 ∧ p.2 ≤ xs.length := by
  have := ((bag_is xs).mem p.1 p.2).mp h
  have h2 := List.count_le_length (a := p.1) (l := xs)
  omega
/-! the normal sequence has the same effect -/
theorem run_count (x : Int) : ∀ (ss : List Stp) (h : List Int), (run ss h).count x ≤ h.count x + (insd ss).count x
  | [], h => Nat.le_add_right _ _
  | .ins v :: r, h => by
    have ih := run_count x r (put v h)
    have e := (put_perm v h).count_eq x
    have e2 : insd (.ins v :: r) = v :: insd r := rfl
    rw [run_cons, e2]
    rw [List.count_cons] at e ⊢
    show (run r (put v h)).count x ≤ _
    omega
  | .rem :: r, h => by
    have ih := run_count x r h.tail
    have e2 : insd (.rem :: r) = insd r := rfl
    have e3 : h.tail.count x ≤ h.count x := (List.tail_sublist h).count_le x
    rw [run_cons, e2]
    show (run r h.tail).count x ≤ _
    omega
theorem surv_count (x : Int) (ss : List Stp) : (surv ss).count x ≤ (insd ss).count x := by
  have := run_count x ss []
  rw [List.count_nil, Nat.zero_add] at this
  exact this
theorem run_len : ∀ (ss : List Stp) (h : List Int), h.length + (insd ss).length ≤ (run ss h).length + nrem ss
  | [], h => Nat.le_refl _
  | .ins v :: r, h => by
    have ih := run_len r (put v h)
    have e2 : insd (.ins v :: r) = v :: insd r := rfl
    have e3 : nrem (.ins v :: r) = nrem r := by
      unfold nrem
      rw [List.countP_cons]
      rfl
    rw [put_length] at ih
    rw [run_cons, e2, e3, List.length_cons]
    show _ ≤ (run r (put v h)).length + _
    omega
  | .rem :: r, h => by
    have ih := run_len r h.tail
    have e2 : insd (.rem :: r) = insd r := rfl
    have e3 : nrem (.rem :: r) = nrem r + 1 := by
      unfold nrem
      rw [List.countP_cons]
      rfl
    rw [List.length_tail] at ih
    rw [run_cons, e2, e3]
    show _ ≤ (run r h.tail).length + _
    omega
theorem run_inss : ∀ (vs h : List Int), (run (vs.map Stp.ins) h).Perm (h ++ vs)
  | [], h => by
    rw [List.append_nil]
    exact List.Perm.refl _
  | v :: vs, h => by
    have ih := run_inss vs (put v h)
    refine ih.trans (((put_perm v h).append_right vs).trans ?_)
    exact (List.perm_middle (a := v) (l₁ := h) (l₂ := vs)).symm
theorem run_rems : ∀ (k : Nat) (h : List Int), run (List.replicate k Stp.rem) h = h.drop k
  | 0, h => rfl
  | k + 1, h => by
    rw [List.replicate_succ, run_cons, run_rems k]
    show h.tail.drop k = _
    rw [List.drop_tail]
theorem insd_inss : ∀ vs : List Int, insd (vs.map Stp.ins) = vs
  | [] => rfl
  | v :: vs => congrArg (v :: ·) (insd_inss vs)
theorem insd_rems : ∀ k : Nat, insd (List.replicate k Stp.rem) = []
  | 0 => rfl
  | k + 1 => by
    rw [List.replicate_succ]
    exact insd_rems k
theorem nrem_inss : ∀ vs : List Int, nrem (vs.map Stp.ins) = 0
  | [] => rfl
  | v :: vs => by
    have e : nrem ((v :: vs).map Stp.ins) = nrem (vs.map Stp.ins) := by
      unfold nrem
      rw [List.map_cons, List.countP_cons]
      rfl
    rw [e, nrem_inss vs]
theorem nrem_rems : ∀ k : Nat, nrem (List.replicate k Stp.rem) = k
  | 0 => rfl
  | k + 1 => by
    have e : nrem (List.replicate (k + 1) Stp.rem) = nrem (List.replicate k Stp.rem) + 1 := by
      unfold nrem
      rw [List.replicate_succ, List.countP_cons]
      rfl
    rw [e, nrem_rems k]
theorem normal_eff {ss : List Stp} {C S : List Int} (hS : S.Perm (surv ss)) (hC : (C ++ S).Perm (insd ss)) :
    eff (C.map Stp.ins ++ List.replicate (nrem ss) Stp.rem ++ S.map Stp.ins) = eff ss ∧ (C.map Stp.ins ++ List.replicate (nrem ss) Stp.rem ++ S.map Stp.ins).length = ss.length := by
  have lS := hS.length_eq
  have lC := hC.length_eq
  rw [List.length_append] at lC
  have hr := run_len ss []
  rw [List.length_nil, Nat.zero_add] at hr
  have hr : (insd ss).length ≤ (surv ss).length + nrem ss := hr
  constructor
  · refine eff_iff.mpr ⟨?_, ?_, ?_⟩
    · rw [insd_append, insd_append, insd_inss, insd_inss, insd_rems, List.append_nil]
      exact hC
    · rw [nrem_append, nrem_append, nrem_inss, nrem_inss, nrem_rems]
      omega
    · refine up_eq (surv_up _) (surv_up _) ?_
      have e1 : (run (C.map Stp.ins) []).length = C.length := by
        rw [(run_inss C []).length_eq, List.nil_append]
      have e2 : run (C.map Stp.ins ++ List.replicate (nrem ss) Stp.rem) [] = [] := by
        rw [run_append, run_rems]
        exact List.drop_eq_nil_of_le (by omega)
      show (run _ []).Perm _
      rw [run_append, e2]
      exact (run_inss S []).trans hS
  · rw [List.length_append, List.length_append, List.length_map, List.length_map, List.length_replicate]
    have := len_split ss
    omega
theorem stps_app {K : PySem.W.Frag} {H : Hp} : ∀ {ts us : List Addr} {a b : List Stp}, Stps K H ts a → Stps K H us b → Stps K H (ts ++ us) (a ++ b)
  | _, _, _, _, .nil, h => h
  | _, _, _, _, .cons x r, h => .cons x (stps_app r h)
theorem stps_rep {K : PySem.W.Frag} {H : Hp} {t : Addr} {s : Stp} (h : SqT K H t (stepV s)) : ∀ k : Nat, Stps K H (List.replicate k t) (List.replicate k s)
  | 0 => .nil
  | k + 1 => by
    rw [List.replicate_succ, List.replicate_succ]
    exact .cons h (stps_rep h k)
theorem int_first {ns : List Int} {k : Int} (h : k ∈ ns) : ∃ j, ns[j]? = some k ∧ (∀ m, m < j → ns[m]? ≠ some k) ∧ ns.eraseIdx j = ns.erase k := by
  induction ns with
  | nil => cases h
  | cons x r ih =>
    by_cases e : x = k
    · exact ⟨0, by rw [e]; rfl, fun m hm => absurd hm (Nat.not_lt_zero _), by rw [e, List.erase_cons_head]; rfl⟩
    · obtain ⟨j, h1, h2, h3⟩ := ih ((List.mem_cons.mp h).resolve_left fun z => e z.symm)
      refine ⟨j + 1, h1, fun m hm => ?_, ?_⟩
      · cases m with
        | zero => exact fun z => e (Option.some.inj z)
        | succ m => exact h2 m (by omega)
      · rw [List.erase_cons_tail (by rw [beq_iff_eq]; exact e)]
        show x :: r.eraseIdx j = _
        rw [h3]
section
variable {P : Program} {w : World} {K : PySem.W.Frag} {mg : Str → Option Value} {base : Heap}
theorem sc46 : FnScope ["_law_steps_here", "_law_at"] ["_law_steps_here", "_law_at"] (defScope (top 46)) := ⟨rfl, rfl, rfl, by decide +kernel, rfl, by decide +kernel, by decide +kernel⟩
theorem cal_swapped (D : Def K mg "_law_swapped" (top 46) ["_law_steps_here", "_law_at"]) : Cal P w K mg base 1 "_law_swapped" (spExch K) := by
  refine D.cal sc46 (fun vs H Q E h => ?_) (fun f cdv A outer s H vs Q E hr h => ?_)
  · obtain ⟨a, xs, k, rfl, _⟩ := h
    rfl
  · obtain ⟨a, xs, k, rfl, hq, hk, hl, q⟩ := h
    refine ⟨_, pss_one (ps_ret (pe_op op_cat (pe_op op_cat (pe_slice sl_list (pv 0) po_none (po_some (pv 1))) (pe_lst (pa_cons (pe_ix ix_list (pv 0) (pe_op op_add (pv 1) pe_int) (fun _ _ => rfl)) (pa_cons (pe_ix ix_list (pv 0) (pv 1) (fun _ _ => rfl)) pa_nil))))
      (pe_slice sl_list (pv 0) (po_some (pe_op op_add (pv 1) pe_int)) po_none))), ?_⟩
    obtain ⟨x, hx⟩ : ∃ x, xs[k]? = some x := ⟨_, List.getElem?_eq_getElem (by omega)⟩
    obtain ⟨y, hy⟩ : ∃ y, xs[k + 1]? = some y := ⟨_, List.getElem?_eq_getElem hk⟩
    have ln : xs.length ≤ sizeLine := le1000 hl
    refine ⟨_, rfl, _, rfl, k, rfl, a, xs, rfl, hq, fun p1 h1 => ?_⟩
    have s1 := same_new (o := .lst (cutV xs none (some (k : Int)))) h1
    refine ⟨_, rfl, _, rfl, _, _, rfl, rfl, a, xs, _, y, rfl, rfl, s1.seq hq, atI_nat (j := k + 1) hy, _, rfl, _, rfl, a, xs, _, x, rfl, rfl, s1.seq hq, atI_nat hx, (by show 2 ≤ sizeLine; decide), fun p2 h2 => ?_⟩
    have s2 := same_new (o := .lst [y, x]) h2
    refine ⟨p1, p2, _, _, rfl, rfl, s2 _ _ upd_same, upd_same, ?_, fun p3 h3 => ?_⟩
    · rw [cut_lo, List.length_take]
      have : [y, x].length = 2 := rfl
      omega
    · have s3 := same_new (o := .lst (cutV xs none (some (k : Int)) ++ [y, x])) h3
      refine ⟨_, rfl, _, rfl, _, _, rfl, rfl, _, rfl, a, xs, rfl, ((s1.trans s2).trans s3).seq hq, fun p4 h4 => ?_⟩
      have s4 := same_new (o := .lst (cutV xs (some ((k : Int) + 2)) none)) h4
      refine ⟨p3, p4, _, _, rfl, rfl, s4 _ _ upd_same, upd_same, ?_, fun p5 h5 => ?_⟩
      · have := cutV_length xs (some ((k : Int) + 2)) none
        rw [cut_lo, List.length_append, List.length_take]
        have e2 : [y, x].length = 2 := rfl
        have hh := cut_hi xs (k + 2)
        have e3 : (((k + 2 : Nat) : Int)) = (k : Int) + 2 := rfl
        rw [e3] at hh
        have e4 : (cutV xs (some ((k : Int) + 2)) none).length = xs.length - (k + 2) := by
          rw [hh, List.length_drop]
        show min k xs.length + [y, x].length + (cutV xs (some ((k : Int) + 2)) none).length ≤ _
        omega
      · have s5 := same_new (o := .lst (swp xs k)) h5
        have ss := ((((s1.trans s2).trans s3).trans s4))
        have e : cutV xs none (some (k : Int)) ++ [y, x] ++ cutV xs (some ((k : Int) + 2)) none = swp xs k := by
          have hh := cut_hi xs (k + 2)
          have e3 : (((k + 2 : Nat) : Int)) = (k : Int) + 2 := rfl
          rw [e3] at hh
          rw [cut_lo, hh]
          exact swp_cut hx hy
        show Q (.ref p5) (upd _ p5 (.lst (cutV xs none (some (k : Int)) ++ [y, x] ++ cutV xs (some ((k : Int) + 2)) none)))
        rw [e]
        exact q p5 _ (ss.trans s5) (ss.free h5) upd_same

def spLList (K : PySem.W.Frag) : Sp := fun vs H Q _ => ∃ (v : V) (xs : List Int), vs = [v] ∧ BagAt K H v (bag xs) ∧ xs.length ≤ 60 ∧ ∀ q H', Same H H' → H q = none → H' q = some (.lst ((sortI xs).map V.int)) → Q (.ref q) H'
theorem sc44 : FnScope ["_law_bag_here", "_law_result", "_law_number", "_law_count"] ["_law_bag_here"] (defScope (top 44)) := ⟨rfl, rfl, rfl, by decide +kernel, rfl, by decide +kernel, by decide +kernel⟩
theorem cal_llist (D : Def K mg "_law_list" (top 44) ["_law_bag_here"]) : Cal P w K mg base 1 "_law_list" (spLList K) := by
  refine D.cal sc44 (fun vs H Q E h => ?_) (fun f cdv A outer s H vs Q E hr h => ?_)
  · obtain ⟨v, xs, rfl, _⟩ := h
    rfl
  · obtain ⟨v, xs, rfl, b1, hl, k⟩ := h
    refine ⟨_, pss_cons (ps_set (i := 1) sc44.nd rfl (.inl rfl) (pe_lst pa_nil))
      (pss_cons (ps_for PassesOwn.never rfl (pi_tup (pv 0)) (pg_tup (n := 2) rfl (pgs_cons (pg_name (i := 2) sc44.nd rfl (.inl rfl)) (pgs_cons (pg_name (i := 3) sc44.nd rfl (.inl rfl)) pgs_nil)))
        (pss_one (ps_set (i := 1) sc44.nd rfl (.inl rfl) (pe_op op_cat (pv 1) (pe_op op_rep (pe_lst (pa_cons (pv 2) pa_nil)) (pv 3))))))
      (pss_one (ps_ret (pv 1)))), ?_⟩
    obtain ⟨a, ts, rfl, pt, pr⟩ := b1
    have lt : (ts.map V.ref).length = (bag xs).length := by rw [List.length_map, pr.length]
    refine ⟨Nat.zero_le _, fun L hL => ?_⟩
    have sL := same_new (o := .lst []) hL
    refine ⟨_, rfl, a, rfl, ⟨_, Same.sqT sL pt.sq⟩, for_tup (K := K) (a := a) (xs := ts.map V.ref) (fun i σ H' => ∃ (o1 o2 : Option V) (q : Addr), σ = [some (.ref a), some (.ref q), o1, o2] ∧ Same H H' ∧ H q = none ∧ H' q = some (.lst ((flat ((bag xs).take i)).map V.int)))
      ⟨none, none, L, rfl, sL, hL, upd_same⟩ (fun i σ H' _ ⟨_, _, _, _, sm, _⟩ => Same.sqT sm pt.sq) ?_ ?_⟩
    · rintro i x σ H' hi ⟨o1, o2, q, rfl, sm, q0, hq⟩
      obtain ⟨t, p, rfl, hp, hpq⟩ := prs_get (pr.kept (TupK.of sm)) hi
      obtain ⟨b1, b2⟩ := bag_le (List.mem_of_getElem? hp)
      have lf := flat_take_le (bag xs) i
      have lb : (flat (bag xs)).length = xs.length := by rw [flat_bag, sortI_len]
      refine ⟨t, _, rfl, hpq, rfl, _, _, rfl, _, _, rfl, rfl, ?_⟩
      refine ⟨_, rfl, _, rfl, (by show 1 ≤ sizeLine; decide), fun q1 h1 => ?_⟩
      have s1 := same_new (o := .lst [V.int p.1]) h1
      refine ⟨_, rfl, q1, p.2, _, rfl, rfl, upd_same, by omega, by omega, le1000 (by show 1 * p.2.toNat ≤ 1000; omega), fun q2 h2 => ?_⟩
      have s2 := same_new (o := .lst (List.replicate p.2.toNat [V.int p.1]).flatten) h2
      refine ⟨q, q2, _, _, rfl, rfl, s2 _ _ (s1 _ _ hq), upd_same, ?_, fun q3 h3 => ?_⟩
      · rw [rep_flat, List.length_map, List.length_map, List.length_replicate]
        exact le1000 (by omega)
      · refine ⟨_, _, q3, rfl, ((sm.trans s1).trans s2).trans (same_new h3), ((sm.trans s1).trans s2).free h3, ?_⟩
        rw [upd_same, take_snoc hp, flat_snoc, rep_flat, ← List.map_append]
    · rintro σ H' ⟨o1, o2, q, rfl, sm, q0, hq⟩
      rw [take_all lt, flat_bag] at hq
      exact ⟨_, rfl, k q H' sm q0 hq⟩
/-! ### the normal sequence -/
def spNormal (K : PySem.W.Frag) : Sp := fun vs H Q _ => ∃ (a : Addr) (ss : List Stp), vs = [.ref a] ∧ SeqAt K H a ss ∧ ss.length ≤ 40 ∧ ∀ q H' tt, Same H H' → H q = none → SeqAt K H' q tt → eff tt = eff ss → tt.length = ss.length → Q (.ref q) H'
theorem sc48 : FnScope ["_law_steps_here", "_law_inserted", "_law_removals", "_law_survivors", "_law_consumed", "_law_number", "_law_first"] ["_law_steps_here"] (defScope (top 48)) := ⟨rfl, rfl, rfl, by decide +kernel, rfl, by decide +kernel, by decide +kernel⟩
/-- a list of insertions made anew -/
theorem lc_ins {K : PySem.W.Frag} {a D : Addr} {σ : L2.St} {vs : List Nat} {i : Nat} {ns : List Int} {H1 : Hp} {Qd : Hp → Prop} (hi : ∀ x : V, wipe ((wipe σ vs).set i (some x)) vs = wipe σ vs ∧ ((wipe σ vs).set i (some x))[i]? = some (some x)) (hs : SqL K H1 a (ns.map V.int)) (hn : ns.length ≤ 100) (hD : H1 D = none)
    (hd : ∀ H ts, Same H1 H → H D = some (.lst (ts.map V.ref)) → Stps K H ts (ns.map Stp.ins) → Qd H) :
    ∃ W : Nat → Nat → Hp → Prop, (∃ m, W 0 m (upd H1 D (.lst []))) ∧ ∀ j m H, W j m H →
      ((Itl K a).stop j H ∧ Qd H) ∨ ((Itl K a).go j H ∧ ∃ Nx : Hp → Prop, (∀ H', Nx H' → ∃ m', m' < m ∧ W (j + 1) m' H') ∧ ∀ x H', (Itl K a).yld j H x H' → gName i x (wipe σ vs) H' fun σ2 H2 => wipe σ2 vs = wipe σ vs ∧ tYes σ2 H2 fun b H3 =>
        if b = true then (tTup (tCons (tC (.str "insert")) (tCons (tVar i) (tCons (tC (.int 1)) tNil)))) σ2 H3 fun y H4 => ∃ acc, H4 D = some (.lst acc) ∧ acc.length < sizeLine ∧ Nx (upd H4 D (.lst (acc ++ [y]))) else Nx H3) := by
  refine lc_list (K := K) (a := a) (xs := ns.map V.int) (fun j H' => Same H1 H' ∧ ∃ ts, H' D = some (.lst (ts.map V.ref)) ∧ Stps K H' ts ((ns.take j).map Stp.ins)) ⟨same_new hD, [], upd_same, .nil⟩ (fun j H' _ h => h.1.seq hs) ?_ ?_
  · rintro j x H' hj ⟨sm, ts, hT, hp⟩
    rw [List.getElem?_map] at hj
    obtain ⟨z, hz, rfl⟩ := Option.map_eq_some_iff.mp hj
    have lT := hp.length
    rw [List.length_map, List.length_take] at lT
    refine ⟨(hi _).1, _, (hi _).2, (by show 3 ≤ sizeLine; decide), fun q hq => ⟨ts.map V.ref, ?_, ?_, ?_⟩⟩
    · rw [upd_ne (ne_of_none hT hq)]
      exact hT
    · rw [List.length_map]
      exact lt1000 (by omega)
    · refine ⟨Same.over (sm.trans (same_new hq)) hD, ts ++ [q], by rw [upd_same, List.map_append]; rfl, ?_⟩
      rw [take_snoc hz, List.map_append]
      refine paired_snoc (hp.kept (tupk_app hT hq)) (.of ?_)
      rw [upd_ne (ne_of_none hT hq).symm, upd_same]
      rfl
  · rintro H' ⟨sm, ts, hT, hp⟩
    rw [take_all (List.length_map _)] at hp
    exact hd H' ts sm hT hp
theorem cal_normal (D : Def K mg "_law_normal" (top 48) ["_law_steps_here"]) (CT : Cal P w K mg base 2 "_law_triple" (spTriple K)) (CL : Cal P w K mg base 1 "_law_list" (spLList K)) : Cal P w K mg base 3 "_law_normal" (spNormal K) := by
  refine D.cal sc48 (fun vs H Q E h => ?_) (fun f cdv A outer s H vs Q E hr h => ?_)
  · obtain ⟨a, ss, rfl, _⟩ := h
    rfl
  · obtain ⟨a, ss, rfl, hq, hl, k⟩ := h
    refine ⟨_, pss_cons (ps_asg (pe_cl CT hr (pa_cons (pv 0) pa_nil)) (pg_tup (n := 3) rfl (pgs_cons (pg_name (i := 1) sc48.nd rfl (.inl rfl)) (pgs_cons (pg_name (i := 2) sc48.nd rfl (.inl rfl)) (pgs_cons (pg_name (i := 3) sc48.nd rfl (.inl rfl)) pgs_nil)))))
      (pss_cons (ps_set (i := 4) sc48.nd rfl (.inl rfl) (pe_cl CL hr (pa_cons (pv 1) pa_nil)))
      (pss_cons (ps_for PassesOwn.never rfl (pi_list (pe_cl CL hr (pa_cons (pv 3) pa_nil))) (pg_name (i := 5) sc48.nd rfl (.inl rfl))
        (pss_one (ps_expr (pe_bm PySem.F.plainAttrs_list PySem.F.slot_list_remove PySem.F.type_list_remove mt_remove (pv 4) (pa_cons (pv 5) pa_nil)))))
      (pss_cons (ps_setLc (i := 6) (own := [("_law_number", 5)]) (g := gName 5) (tt := tYes) (te := tTup (tCons (tC (.str "insert")) (tCons (tVar 5) (tCons (tC (.int 1)) tNil)))) rfl sc48.nd rfl rfl (sw_true rfl rfl rfl (by decide +kernel)) (pi_list (pv 4)) (blkOk_by (N := ["_law_steps_here", "_law_inserted", "_law_removals", "_law_survivors", "_law_consumed", "_law_number", "_law_first"]) (sc := defScope (top 48)) (by decide +kernel))
        (fun _ _ _ _ _ => pg_name (i := 5) sc48.nd rfl (.inl rfl)) (fun _ _ _ _ _ => pts_nil) (fun _ _ _ _ _ => pe_tup (pa_cons pe_str (pa_cons (pv 5) (pa_cons pe_int pa_nil)))))
      (pss_one (ps_ret (pe_op op_cat (pe_op op_cat (pv 6) (pe_op op_rep (pe_lst (pa_cons (pe_tup (pa_cons pe_str (pa_cons pe_int pa_nil))) pa_nil)) (pv 2)))
        (pe_lc (own := [("_law_number", 5)]) (g := gName 5) (tt := tYes) (te := tTup (tCons (tC (.str "insert")) (tCons (tVar 5) (tCons (tC (.int 1)) tNil)))) rfl sc48.nd (pi_list (pe_cl CL hr (pa_cons (pv 3) pa_nil))) (blkOk_by (N := ["_law_steps_here", "_law_inserted", "_law_removals", "_law_survivors", "_law_consumed", "_law_number", "_law_first"]) (sc := defScope (top 48)) (by decide +kernel))
          (fun _ _ _ _ _ => pg_name (i := 5) sc48.nd rfl (.inl rfl)) (fun _ _ _ _ _ => pts_nil) (fun _ _ _ _ _ => pe_tup (pa_cons pe_str (pa_cons (pv 5) (pa_cons pe_int pa_nil))))))))))), ?_⟩
    have hil := insd_le ss
    have hsl := surv_le ss
    refine ⟨_, rfl, a, ss, rfl, hq, hl, fun v H1 s1 e1 => ?_⟩
    obtain ⟨b, x, y, rfl, hb, bx, by'⟩ := e1
    refine ⟨b, _, rfl, hb, rfl, _, _, rfl, _, _, rfl, _, _, rfl, rfl, ?_⟩
    refine ⟨_, rfl, x, insd ss, rfl, bx, by omega, fun c H2 s2 c0 hc => ?_⟩
    refine ⟨_, rfl, y, surv ss, rfl, by'.kept (TupK.of s2), by omega, fun d H3 s3 d0 hd => ?_⟩
    have s13 := (s1.trans s2).trans s3
    have hc3 := s3 _ _ hc
    have c00 : H c = none := s1.free c0
    have d00 : H d = none := (s1.trans s2).free d0
    have ncd : c ≠ d := ne_of_none hc d0
    -- the loop of removals
    refine ⟨d, rfl, ⟨_, .of hd⟩, for_list (K := K) (a := d) (xs := (sortI (surv ss)).map V.int) (fun i σ H' => ∃ (o : Option V) (C : List Int), σ = [some (.ref a), some x, some (.int (nrem ss : Nat)), some y, some (.ref c), o, none] ∧ Same H H' ∧ Kept [c] H3 H' ∧ H' c = some (.lst (C.map V.int)) ∧ (C ++ (sortI (surv ss)).take i).Perm (insd ss))
      ⟨none, sortI (insd ss), rfl, s13, .refl _ _, hc3, by rw [List.take_zero, List.append_nil]; exact sortI_perm _⟩ (fun i σ H' _ ⟨_, _, _, _, kp, _⟩ => kp.lst (fun z => ncd (List.mem_singleton.mp z).symm) (.of hd)) ?_ ?_⟩
    · rintro i xv σ H' hi ⟨o, C, rfl, sm, kp, hC, pm⟩
      rw [List.getElem?_map] at hi
      obtain ⟨z, hz, rfl⟩ := Option.map_eq_some_iff.mp hi
      have hzC : z ∈ C := by
        have h1 := surv_count z ss
        have h2 := pm.count_eq z
        have h3 := (sortI_perm (surv ss)).count_eq z
        have h4 : ((sortI (surv ss)).take (i + 1)).count z ≤ (sortI (surv ss)).count z := (List.take_sublist _ _).count_le z
        rw [take_snoc hz, List.count_append, List.count_cons_self] at h4
        rw [List.count_append] at h2
        exact List.count_pos_iff.mp (by omega)
      obtain ⟨j, f1, f2, f3⟩ := int_first hzC
      refine ⟨_, rfl, .inl ⟨rfl, _, SqL.of hC⟩, _, rfl, c, C, z, j, rfl, rfl, hC, f1, f2, ?_⟩
      refine ⟨_, C.erase z, rfl, Same.over sm c00, kp.trans (.set List.mem_cons_self), ?_, ?_⟩
      · rw [upd_same, f3]
      · rw [take_snoc hz]
        refine List.Perm.trans ?_ pm
        have p1 := List.perm_cons_erase hzC
        refine List.Perm.trans ?_ (p1.symm.append_right _)
        show (C.erase z ++ ((sortI (surv ss)).take i ++ [z])).Perm (z :: (C.erase z ++ (sortI (surv ss)).take i))
        rw [← List.append_assoc]
        exact List.perm_append_comm
    · rintro σ H4 ⟨o, C, rfl, sm4, kp4, hC, pm⟩
      rw [take_all (List.length_map _)] at pm
      have lC := pm.length_eq
      rw [List.length_append, sortI_len] at lC
      obtain ⟨ef, el⟩ := normal_eff (sortI_perm (surv ss)) pm
      have tk34 : TupK H3 H4 := kp4.tup (lst_notup hc3)
      refine ⟨_, rfl, c, rfl, ⟨_, .of hC⟩, fun L hL => ?_⟩
      refine lc_ins (fun x => ⟨rfl, rfl⟩) (.of hC) (by omega) hL fun H5 ts1 s5 hT1 g1 => ?_
      have by5 := ((by'.kept (TupK.of s2)).kept (TupK.of s3)).kept (tk34.trans (TupK.of s5))
      refine ⟨_, rfl, (by show 2 ≤ sizeLine; decide), fun t ht => ⟨(by show 1 ≤ sizeLine; decide), fun m hm => ?_⟩⟩
      have st := same_new (o := .tup [.str "remove", .int 1]) ht
      have sm' := same_new (o := .lst [V.ref t]) hm
      refine ⟨_, rfl, m, (nrem ss : Nat), _, rfl, rfl, upd_same, by omega, by have := len_split ss; omega, le1000 (by show 1 * ((nrem ss : Nat) : Int).toNat ≤ 1000; have := len_split ss; omega), fun m2 hm2 => ?_⟩
      have s7 := same_new (o := .lst (List.replicate ((nrem ss : Nat) : Int).toNat [V.ref t]).flatten) hm2
      have s57 := (st.trans sm').trans s7
      refine ⟨L, m2, _, _, rfl, rfl, s57 _ _ hT1, upd_same, ?_, fun m3 hm3 => ?_⟩
      · have l1 := g1.length
        rw [List.length_map] at l1
        have := len_split ss
        rw [rep_ref, List.length_map, List.length_map, List.length_replicate]
        exact le1000 (by omega)
      · have s8 := same_new (o := .lst (ts1.map V.ref ++ (List.replicate ((nrem ss : Nat) : Int).toNat [V.ref t]).flatten)) hm3
        have s58 := s57.trans s8
        refine ⟨_, rfl, y, surv ss, rfl, by5.kept (TupK.of s58), by omega, fun d2 H9 s9 d20 hd2 => ?_⟩
        refine ⟨d2, rfl, ⟨_, .of hd2⟩, fun L2 hL2 => ?_⟩
        refine lc_ins (fun x => ⟨rfl, rfl⟩) (.of hd2) (by rw [sortI_len]; omega) hL2 fun H10 ts2 s10 hT2 g2 => ?_
        have s510 := (s58.trans s9).trans s10
        have hm3' := (s9.trans s10) _ _ (show upd _ m3 (.lst (ts1.map V.ref ++ (List.replicate ((nrem ss : Nat) : Int).toNat [V.ref t]).flatten)) m3 = _ from upd_same)
        refine ⟨m3, L2, _, _, rfl, rfl, hm3', hT2, ?_, fun q hq => ?_⟩
        · have l1 := g1.length
          have l2 := g2.length
          rw [List.length_map] at l1 l2
          rw [sortI_len] at l2
          have := len_split ss
          rw [rep_ref, List.length_append, List.length_map, List.length_map, List.length_map, List.length_replicate]
          exact le1000 (by omega)
        · have s11 := same_new (o := .lst (ts1.map V.ref ++ (List.replicate ((nrem ss : Nat) : Int).toNat [V.ref t]).flatten ++ ts2.map V.ref)) hq
          have sAll := ((sm4.trans s5).trans s510).trans s11
          refine k q _ (C.map Stp.ins ++ List.replicate (nrem ss) Stp.rem ++ (sortI (surv ss)).map Stp.ins) sAll (((sm4.trans s5).trans s510).free hq) ⟨ts1 ++ List.replicate (nrem ss) t ++ ts2, .of ?_, ?_⟩ ef el
          · rw [upd_same, rep_ref, List.map_append, List.map_append]
            rfl
          · have ht2 : SqT K (upd H10 q (.lst (ts1.map V.ref ++ (List.replicate ((nrem ss : Nat) : Int).toNat [V.ref t]).flatten ++ ts2.map V.ref))) t (stepV .rem) := Same.sqT ((((sm'.trans s7).trans s8).trans s9).trans (s10.trans s11)) (.of upd_same)
            exact stps_app (stps_app (g1.kept (TupK.of (s510.trans s11))) (stps_rep ht2 _)) (g2.kept (TupK.of s11))
end
end HX
set_option Elab.async false
set_option linter.all false
set_option maxRecDepth 100000
set_option maxHeartbeats 1000000
/-! The law's draws. -/
namespace HX
open PySem PySem.Spec PyProof.Rows L2 LamX
/-- the pool at p: a list of ints, a place in it, what is left of the number, the mix -/
def Pool (K : PySem.W.Frag) (H : Hp) (p sc : Addr) : Prop := ∃ (ns : List Int) (k z r : Int), H p = some (.lst [.ref sc, .int k, .int z, .int r]) ∧ 0 ≤ k ∧ 0 ≤ z ∧ 0 ≤ r ∧ r < 2147483648 ∧ SqL K H sc (ns.map V.int) ∧ sc ≠ p
theorem Pool.kept {K : PySem.W.Frag} {H H' : Hp} {p sc : Addr} (s : ExT H H') (h : Pool K H p sc) : Pool K H' p sc := by
  obtain ⟨ns, k, z, r, h1, h2, h3, h4, h5, h6, h7⟩ := h
  exact ⟨ns, k, z, r, s.1 _ _ h1 fun _ z => (nomatch z), h2, h3, h4, h5, s.sqL h6, h7⟩
theorem Pool.same {K : PySem.W.Frag} {H H' : Hp} {p sc : Addr} (s : Same H H') (h : Pool K H p sc) : Pool K H' p sc := h.kept (.of s)
theorem Pool.lst {K : PySem.W.Frag} {H : Hp} {p sc : Addr} (h : Pool K H p sc) : ∃ xs, H p = some (.lst xs) := by
  obtain ⟨ns, k, z, r, h1, _⟩ := h
  exact ⟨_, h1⟩
theorem Kept.over {W : List Addr} {H0 H : Hp} {D : Addr} {o : HO} (s : Kept W H0 H) (n : H0 D = none) : Kept W H0 (upd H D o) := fun b x e hb => by
  rw [upd_ne (ne_of_none e n)]
  exact s b x e hb
theorem Kept.step {W : List Addr} {H0 H H' : Hp} (s : Kept W H0 H) (e : Same H H') : Kept W H0 H' := s.trans (Same.kept e)
theorem Pool.ne {K : PySem.W.Frag} {H : Hp} {p q sc : Addr} (h : Pool K H p sc) (hq : H q = none) : q ≠ p := fun z => by
  obtain ⟨xs, e⟩ := h.lst
  rw [z, e] at hq
  cases hq
/-- a thing that is new since the start is written -/
theorem Pool.upd {K : PySem.W.Frag} {H0 H : Hp} {p q sc : Addr} {o : HO} (h : Pool K H p sc) (h0 : Pool K H0 p sc) (kp : Kept [p] H0 H) (n : H0 q = none) : Pool K (L2.upd H q o) p sc := by
  have nqp := h0.ne n
  obtain ⟨ns, k, z, r, h1, h2, h3, h4, h5, h6, h7⟩ := h
  obtain ⟨ns0, _, _, _, _, _, _, _, _, g6, _⟩ := h0
  refine ⟨ns0, k, z, r, by rw [upd_ne nqp.symm]; exact h1, h2, h3, h4, h5, ?_, h7⟩
  exact (Kept.over kp n).lst (fun z => h7 (List.mem_singleton.mp z)) g6
theorem Kept.tk {H H' : Hp} {p : Addr} {xs : List V} (h : H p = some (.lst xs)) (k : Kept [p] H H') : TupK H H' := k.tup (lst_notup h)
theorem Kept.free {W : List Addr} {H H' : Hp} (k : Kept W H H') {b : Addr} (hw : ∀ w ∈ W, ∃ o, H' w = some o) (h : H' b = none) : H b = none := by
  cases z : H b with
  | none => rfl
  | some o =>
    by_cases hb : b ∈ W
    · obtain ⟨o', e⟩ := hw b hb
      rw [h] at e
      cases e
    · have := k b o z hb
      rw [h] at this
      cases this
theorem emod_in (x : Int) : -(2 ^ 64) < x % 2147483647 ∧ x % 2147483647 < 2 ^ 64 := by
  have h1 := Int.emod_nonneg x (by decide : (2147483647 : Int) ≠ 0)
  have h2 := Int.emod_lt_of_pos x (by decide : (0 : Int) < 2147483647)
  constructor <;> omega
theorem cell_big {cell : Int} (h : ¬ decide (cell < 10 ^ (18 : Int).toNat) = true) : 0 ≤ cell := by
  have h2 : ¬ cell < 10 ^ (18 : Int).toNat := fun z => h (decide_eq_true z)
  have e : (10 : Int) ^ (18 : Int).toNat = 1000000000000000000 := by decide
  rw [e] at h2
  omega
theorem end_mod {K : PySem.W.Frag} {H H' : Hp} {p sc : Addr} {c x : Int} {Q : VK} (kq : ∀ (H' : Hp) (k : Nat), Kept [p] H H' → Pool K H' p sc → (k : Int) < c → Q (.int k) H') (c0 : 0 < c) (kp : Kept [p] H H') (hp : Pool K H' p sc) : Q (.int (x % c)) H' := by
  have e1 : x % c = ((x % c).toNat : Int) := by
    have := Int.emod_nonneg x (by omega : c ≠ 0)
    omega
  have e2 := Int.emod_lt_of_pos x c0
  rw [e1]
  exact kq H' _ kp hp (by omega)
section
variable {P : Program} {w : World} {K : PySem.W.Frag} {mg : Str → Option Value} {base : Heap}
def spDraw (K : PySem.W.Frag) : Sp := fun vs H Q _ => ∃ (p sc : Addr) (c : Int), vs = [.ref p, .int c] ∧ Pool K H p sc ∧ 0 < c ∧ c ≤ 1000000 ∧ ∀ (H' : Hp) (k : Nat), Kept [p] H H' → Pool K H' p sc → (k : Int) < c → Q (.int k) H'
theorem sc39 : FnScope ["_law_pool", "_law_count", "_law_cell", "_law_result"] ["_law_pool", "_law_count"] (defScope (top 39)) := ⟨rfl, rfl, rfl, by decide +kernel, rfl, by decide +kernel, by decide +kernel⟩
theorem cal_draw (D : Def K mg "_law_draw" (top 39) ["_law_pool", "_law_count"]) (T : Txt K mg) : Cal P w K mg base 1 "_law_draw" (spDraw K) := by
  refine D.cal sc39 (fun vs H Q E h => ?_) (fun f cdv A outer s H vs Q E hr h => ?_)
  · obtain ⟨p, sc, c, rfl, _⟩ := h
    rfl
  · obtain ⟨p, sc, c, rfl, hp, c0, c1, kq⟩ := h
    refine ⟨_, pss_cons (ps_if (pt_cmpR op_eq (pe_ix ix_list (pv 0) pe_int (fun _ _ => rfl)) pe_int (nomark _))
        (pss_cons (ps_set (i := 2) sc39.nd rfl (.inl rfl) (pe_ifExp (pt_cmpR op_lt (pe_ix ix_list (pv 0) pe_int (fun _ _ => rfl)) (pe_callB call_len_seq rfl T.len PySem.boot_len (pa_cons (pe_ix ix_list (pv 0) pe_int (fun _ _ => rfl)) pa_nil)) (nomark _))
            (pe_ix ix_list (pe_ix ix_list (pv 0) pe_int (fun _ _ => rfl)) (pe_ix ix_list (pv 0) pe_int (fun _ _ => rfl)) (fun _ _ => rfl)) pe_int))
        (pss_cons (ps_asg (pe_op op_add (pe_ix ix_list (pv 0) pe_int (fun _ _ => rfl)) pe_int) (pg_sub (pv 0) pe_int set_list))
        (pss_cons (ps_if (pt_cmpR op_lt (pv 2) (pe_op op_pow pe_int pe_int) (nomark _))
            (pss_cons (ps_asg (pe_op op_mod (pe_op op_add (pe_op op_add (pe_op op_mul (pe_ix ix_list (pv 0) pe_int (fun _ _ => rfl)) pe_int) (pe_op op_mod (pv 2) pe_int)) (pe_ix ix_list (pv 0) pe_int (fun _ _ => rfl))) pe_int) (pg_sub (pv 0) pe_int set_list))
            (pss_one (ps_ret (pe_op op_mod (pe_op op_fdiv (pe_op op_mod (pe_op op_mul (pe_ix ix_list (pv 0) pe_int (fun _ _ => rfl)) (pe_ix ix_list (pv 0) pe_int (fun _ _ => rfl))) pe_int) pe_int) (pv 1))))) pss_nil)
        (pss_one (ps_asg (pv 2) (pg_sub (pv 0) pe_int set_list)))))) pss_nil)
      (pss_cons (ps_set (i := 3) sc39.nd rfl (.inl rfl) (pe_op op_mod (pe_ix ix_list (pv 0) pe_int (fun _ _ => rfl)) (pv 1)))
      (pss_cons (ps_asg (pe_op op_fdiv (pe_ix ix_list (pv 0) pe_int (fun _ _ => rfl)) (pv 1)) (pg_sub (pv 0) pe_int set_list))
      (pss_one (ps_ret (pv 3))))), ?_⟩
    obtain ⟨ns, k, z, r, h1, hk, hz, hr0, hr1, hs, hn⟩ := hp
    -- the end: what is left of the number
    have fin : ∀ (H' : Hp) (k z r : Int) (o : Option V), Kept [p] H H' → H' p = some (.lst [.ref sc, .int k, .int z, .int r]) → 0 ≤ k → 0 ≤ z → 0 ≤ r → r < 2147483648 →
        (tSeq (tAsg (tOp (rI (fun _ j => 0 < j) fun i j => .int (i % j)) (tOp (rIxL K) (tVar 0) (tC (.int 2))) (tVar 1)) (gName 3)) (tSeq (tAsg (tOp (rI CDiv fun i j => .int (i / j)) (tOp (rIxL K) (tVar 0) (tC (.int 2))) (tVar 1)) (gSub (tVar 0) (tC (.int 2)) rSetL)) (tRet (tVar 3)))) { nx := fun _ H' => Q .non H', rt := Q } [some (.ref p), some (.int c), o, none] H' := by
      intro H' k z r o kp hp' hk hz hr0 hr1
      refine ⟨_, rfl, p, _, 2, _, rfl, rfl, .of hp', rfl, _, rfl, z, c, rfl, rfl, c0, ?_⟩
      refine ⟨_, rfl, p, _, 2, _, rfl, rfl, .of hp', rfl, _, rfl, z, c, rfl, rfl, ⟨c0, by omega⟩, _, rfl, p, _, 2, 2, rfl, rfl, hp', rfl, ?_⟩
      refine ⟨_, rfl, ?_⟩
      have e1 : z % c = ((z % c).toNat : Int) := by
        have := Int.emod_nonneg z (by omega : c ≠ 0)
        omega
      have e2 := Int.emod_lt_of_pos z c0
      show Q (.int (z % c)) _
      rw [e1]
      refine kq _ _ (kp.trans (.set List.mem_cons_self)) ⟨ns, k, z / c, r, upd_same, hk, Int.ediv_nonneg hz (by omega), hr0, hr1, ?_, hn⟩ (by omega)
      exact (Kept.set (W := [p]) List.mem_cons_self).lst (fun q => hn (List.mem_singleton.mp q)) (kp.lst (fun q => hn (List.mem_singleton.mp q)) hs)
    have ke : Kept [p] H H := .refl _ _
    have hL : ∀ (o : HO), SqL K (upd H p o) sc (ns.map V.int) := fun o => (Kept.set (W := [p]) List.mem_cons_self).lst (fun q => hn (List.mem_singleton.mp q)) hs
    refine ⟨_, rfl, p, _, 2, _, rfl, rfl, .of h1, rfl, rfl, _, rfl, ?_⟩
    by_cases hz0 : z = 0
    · refine ite_yes (decide_eq_true (congrArg V.int hz0)) ?_
      refine ⟨_, rfl, p, _, 1, _, rfl, rfl, .of h1, rfl, _, rfl, p, _, 0, _, rfl, rfl, .of h1, rfl, sc, _, rfl, .inl hs, _, _, rfl, rfl, _, rfl, ?_⟩
      refine ite2 (fun hlt => ?goalA) (fun hge => ?goalB)
      case' goalA =>
        have hlt' : k < ((ns.map V.int).length : Int) := of_decide_eq_true hlt
        rw [List.length_map] at hlt'
        have hget : atI (ns.map V.int) k = some (V.int (ns[k.toNat]'(by omega))) := by
          refine atI_at (j := k.toNat) (by omega) ?_
          rw [List.getElem?_map, List.getElem?_eq_getElem (by omega)]
          rfl
        refine ⟨_, rfl, p, _, 0, _, rfl, rfl, .of h1, rfl, _, rfl, p, _, 1, _, rfl, rfl, .of h1, rfl, sc, _, k, _, rfl, rfl, hs, hget, ?_⟩
      all_goals
        refine ⟨_, rfl, p, _, 1, _, rfl, rfl, .of h1, rfl, _, _, rfl, rfl, _, rfl, p, _, 1, 1, rfl, rfl, h1, rfl, ?_⟩
        refine ⟨_, rfl, 10, 18, rfl, rfl, ⟨by decide, by decide, by decide⟩, _, _, rfl, rfl, _, rfl, ?_⟩
        refine ite2 (fun hc => ?_) (fun hc => ?_)
        · refine ⟨_, rfl, p, _, 3, _, rfl, rfl, .of upd_same, rfl, _, 48271, rfl, rfl, .inr (by decide), _, rfl, _, 2147483629, rfl, rfl, (by show (0 : Int) < 2147483629; decide), _, _, rfl, rfl, _, rfl, p, _, 1, _, rfl, rfl, .of upd_same, rfl, _, _, rfl, rfl, _, 2147483647, rfl, rfl, (by show (0 : Int) < 2147483647; decide), _, rfl, p, _, 3, 3, rfl, rfl, upd_same, rfl, ?_⟩
          refine ⟨_, rfl, p, _, 3, _, rfl, rfl, .of upd_same, rfl, _, rfl, p, _, 3, _, rfl, rfl, .of upd_same, rfl, _, _, rfl, rfl, .inl (emod_in _), _, 2147483629, rfl, rfl, (by show (0 : Int) < 2147483629; decide), _, 7, rfl, rfl, ⟨by decide, by decide⟩, _, rfl, _, c, rfl, rfl, c0, ?_⟩
          refine end_mod kq c0 ((ke.trans (.set List.mem_cons_self)).trans (.set List.mem_cons_self)) ⟨ns, k + 1, z, _, upd_same, by omega, hz, Int.emod_nonneg _ (by decide), Int.lt_trans (Int.emod_lt_of_pos _ (by decide)) (by decide), ?_, hn⟩
          exact (Kept.set (W := [p]) List.mem_cons_self).lst (fun q => hn (List.mem_singleton.mp q)) (hL _)
        · have hcell := cell_big hc
          refine ⟨_, rfl, _, rfl, p, _, 2, 2, rfl, rfl, upd_same, rfl, ?_⟩
          exact fin _ (k + 1) _ r _ ((ke.trans (.set List.mem_cons_self)).trans (.set List.mem_cons_self)) upd_same (by omega) hcell hr0 hr1
    · exact ite_no (fun q => hz0 (V.int.inj (of_decide_eq_true q))) (fin H k z r none ke h1 hk hz hr0 hr1)
end
end HX
set_option Elab.async false
set_option linter.all false
set_option maxRecDepth 100000
set_option maxHeartbeats 1000000
/-! The law's base, steps, shuffled. -/
namespace HX
open PySem PySem.Spec PyProof.Rows L2 LamX
/-- small numbers -/
def Sm (ss : List Stp) : Prop := ∀ v ∈ insd ss, v.natAbs ≤ 1000000000000000000000000000
theorem Sm.of {ss tt : List Stp} (h : Sm ss) (p : (insd tt).Perm (insd ss)) : Sm tt := fun v hv => h v (p.mem_iff.mp hv)
section
variable {P : Program} {w : World} {K : PySem.W.Frag} {mg : Str → Option Value} {base : Heap}
def spBase (K : PySem.W.Frag) : Sp := fun vs H Q _ => ∃ p sc : Addr, vs = [.ref p] ∧ Pool K H p sc ∧ ∀ (H' : Hp) (b : Int), Kept [p] H H' → Pool K H' p sc → b.natAbs ≤ 100000000000000000000000000 → Q (.int b) H'
theorem sc40 : FnScope ["_law_pool"] ["_law_pool"] (defScope (top 40)) := ⟨rfl, rfl, rfl, by decide +kernel, rfl, by decide +kernel, by decide +kernel⟩
theorem p25 : (10 : Int) ^ (25 : Int).toNat = 10000000000000000000000000 := by decide
theorem p6 : (10 : Int) ^ (6 : Int).toNat = 1000000 := by decide
theorem cpow (j : Int) (h0 : 0 ≤ j) (h1 : j ≤ 1000000) : CPow 10 j := ⟨h0, h1, by decide⟩
theorem cal_base (D : Def K mg "_law_base" (top 40) ["_law_pool"]) (CD : Cal P w K mg base 1 "_law_draw" (spDraw K)) : Cal P w K mg base 2 "_law_base" (spBase K) := by
  refine D.cal sc40 (fun vs H Q E h => ?_) (fun f cdv A outer s H vs Q E hr h => ?_)
  · obtain ⟨p, sc, rfl, _⟩ := h
    rfl
  · obtain ⟨p, sc, rfl, hp, k⟩ := h
    refine ⟨_, pss_one (ps_ret (pe_ix ix_list (pe_lst (pa_cons pe_int (pa_cons (pe_un un_neg pe_int) (pa_cons (pe_op op_pow pe_int pe_int) (pa_cons (pe_op op_add (pe_op op_sub pe_int (pe_op op_pow pe_int pe_int)) (pe_cl CD hr (pa_cons (pv 0) (pa_cons (pe_op op_pow pe_int pe_int) pa_nil)))) pa_nil))))) (pe_cl CD hr (pa_cons (pv 0) (pa_cons pe_int pa_nil))) (fun _ _ => rfl))), ?_⟩
    refine ⟨2, rfl, 10, 25, rfl, rfl, cpow 25 (by decide) (by decide), 10, 25, rfl, rfl, cpow 25 (by decide) (by decide), 0, _, rfl, rfl, _, rfl, 10, 6, rfl, rfl, cpow 6 (by decide) (by decide), p, sc, _, rfl, hp, by decide, by decide, fun H1 d k1 p1 hd => ?_⟩
    refine ⟨_, _, rfl, rfl, (by show 4 ≤ sizeLine; decide), fun q hq => ?_⟩
    have sq := same_new (o := .lst [.int 0, .int (-2), .int (10 ^ (25 : Int).toNat), .int (0 - 10 ^ (25 : Int).toNat + (d : Int))]) hq
    have nqp := p1.ne hq
    refine ⟨_, rfl, p, sc, 4, rfl, p1.same sq, by decide, by decide, fun H2 j k2 p2 hj => ?_⟩
    have hq2 := k2 q _ (show upd H1 q (.lst [.int 0, .int (-2), .int (10 ^ (25 : Int).toNat), .int (0 - 10 ^ (25 : Int).toNat + (d : Int))]) q = _ from upd_same) (fun z => nqp (List.mem_singleton.mp z))
    have kk : Kept [p] H H2 := (k1.step sq).trans k2
    rw [p6] at hd
    have hj4 : j < 4 := by omega
    match j, hj4 with
    | 0, _ => exact ⟨q, _, 0, _, rfl, rfl, .of hq2, rfl, k H2 _ kk p2 (by decide)⟩
    | 1, _ => exact ⟨q, _, 1, _, rfl, rfl, .of hq2, rfl, k H2 _ kk p2 (by decide)⟩
    | 2, _ => exact ⟨q, _, 2, _, rfl, rfl, .of hq2, rfl, k H2 _ kk p2 (by rw [p25]; decide)⟩
    | 3, _ => exact ⟨q, _, 3, _, rfl, rfl, .of hq2, rfl, k H2 _ kk p2 (by rw [p25]; omega)⟩

def spSteps (K : PySem.W.Frag) : Sp := fun vs H Q _ => ∃ (p sc : Addr) (c : Nat) (wd : Int), vs = [.ref p, .int c, .int wd] ∧ Pool K H p sc ∧ c ≤ 40 ∧ 0 < wd ∧ wd ≤ 1000000 ∧
  ∀ (H' : Hp) (q : Addr) (ss : List Stp), Kept [p] H H' → Pool K H' p sc → H q = none → SeqAt K H' q ss → ss.length = c → Sm ss → Q (.ref q) H'
theorem sc41 : FnScope ["_law_pool", "_law_count", "_law_width", "_law_base_here", "_law_bias", "_law_steps_here", "_law_k"] ["_law_pool", "_law_count", "_law_width"] (defScope (top 41)) := ⟨rfl, rfl, rfl, by decide +kernel, rfl, by decide +kernel, by decide +kernel⟩
theorem insd_snoc_ins (ss : List Stp) (v : Int) : insd (ss ++ [.ins v]) = insd ss ++ [v] := insd_append _ _
theorem insd_snoc_rem (ss : List Stp) : insd (ss ++ [.rem]) = insd ss := by
  rw [insd_append]
  exact List.append_nil _
theorem cal_steps (D : Def K mg "_law_steps" (top 41) ["_law_pool", "_law_count", "_law_width"]) (T : Txt K mg) (CB : Cal P w K mg base 2 "_law_base" (spBase K)) (CD : Cal P w K mg base 1 "_law_draw" (spDraw K)) : Cal P w K mg base 3 "_law_steps" (spSteps K) := by
  refine D.cal sc41 (fun vs H Q E h => ?_) (fun f cdv A outer s H vs Q E hr h => ?_)
  · obtain ⟨p, sc, c, wd, rfl, _⟩ := h
    rfl
  · obtain ⟨p, sc, c, wd, rfl, hp, hc, w0, w1, k⟩ := h
    refine ⟨_, pss_cons (ps_set (i := 3) sc41.nd rfl (.inl rfl) (pe_cl CB hr (pa_cons (pv 0) pa_nil)))
      (pss_cons (ps_set (i := 4) sc41.nd rfl (.inl rfl) (pe_cl CD hr (pa_cons (pv 0) (pa_cons pe_int pa_nil))))
      (pss_cons (ps_set (i := 5) sc41.nd rfl (.inl rfl) (pe_lst pa_nil))
      (pss_cons (ps_for PassesOwn.never rfl (pi_range1 rfl T.range (pa_cons (pv 1) pa_nil)) (pg_name (i := 6) sc41.nd rfl (.inl rfl))
        (pss_one (ps_if (pt_cmpR op_lt (pe_cl CD hr (pa_cons (pv 0) (pa_cons pe_int pa_nil))) (pv 4) (nomark _))
          (pss_one (ps_expr (pe_bm PySem.F.plainAttrs_list PySem.F.slot_list_append PySem.F.type_list_append mt_append (pv 5) (pa_cons (pe_tup (pa_cons pe_str (pa_cons (pe_op op_add (pv 3) (pe_cl CD hr (pa_cons (pv 0) (pa_cons (pv 2) pa_nil)))) (pa_cons pe_int pa_nil)))) pa_nil))))
          (pss_one (ps_expr (pe_bm PySem.F.plainAttrs_list PySem.F.slot_list_append PySem.F.type_list_append mt_append (pv 5) (pa_cons (pe_tup (pa_cons pe_str (pa_cons pe_int pa_nil))) pa_nil)))))))
      (pss_one (ps_ret (pv 5)))))), ?_⟩
    refine ⟨_, rfl, p, sc, rfl, hp, fun H1 b k1 p1 hb => ?_⟩
    refine ⟨_, rfl, p, sc, 5, rfl, p1, by decide, by decide, fun H2 j k2 p2 hj => ?_⟩
    have k12 := k1.trans k2
    refine ⟨Nat.zero_le _, fun q hq => ?_⟩
    have q0 : H q = none := Kept.free k12 (fun x hx => by
      rw [List.mem_singleton.mp hx]
      obtain ⟨xs, e⟩ := p2.lst
      exact ⟨_, e⟩) hq
    have nqp := hp.ne q0
    refine ⟨_, rfl, (c : Int), rfl, by omega, by omega, for_range (lo := 0) (n := (c : Int).toNat) (fun i σ H' => ∃ (o : Option V) (ts : List Addr) (ss : List Stp), σ = [some (.ref p), some (.int c), some (.int wd), some (.int b), some (.int (j : Nat)), some (.ref q), o] ∧ Kept [p] H H' ∧ Pool K H' p sc ∧ H' q = some (.lst (ts.map V.ref)) ∧ Stps K H' ts ss ∧ ss.length = i ∧ Sm ss)
      ⟨none, [], [], rfl, Kept.over k12 q0, p2.upd hp k12 q0, upd_same, .nil, rfl, fun v hv => by cases hv⟩ ?_ ?_⟩
    · rintro i σ H' hi ⟨o, ts, ss, rfl, kp, pl, hT, hS, hl, sm⟩
      have lT := hS.length
      refine ⟨_, rfl, p, sc, 4, rfl, pl, by decide, by decide, fun H3 d k3 p3 hd => ?_⟩
      have kp3 := kp.trans k3
      obtain ⟨xp, exp⟩ := pl.lst
      have hT3 := k3 _ _ hT (fun z => nqp (List.mem_singleton.mp z))
      have hS3 := hS.kept (Kept.tk exp k3)
      refine ⟨_, rfl, _, _, rfl, rfl, _, rfl, ?_⟩
      refine ite2 (fun _ => ?_) (fun _ => ?_)
      · refine ⟨_, rfl, .inl ⟨rfl, _, SqL.of hT3⟩, _, rfl, _, rfl, _, rfl, p, sc, wd, rfl, p3, w0, w1, fun H4 d2 k4 p4 hd2 => ?_⟩
        obtain ⟨xp3, exp3⟩ := p3.lst
        have hT4 := k4 _ _ hT3 (fun z => nqp (List.mem_singleton.mp z))
        have hS4 := hS3.kept (Kept.tk exp3 k4)
        have kp4 := kp3.trans k4
        refine ⟨_, _, rfl, rfl, (by show 3 ≤ sizeLine; decide), fun t ht => ?_⟩
        have st := same_new (o := .tup [.str "insert", .int (b + (d2 : Nat)), .int 1]) ht
        refine ⟨q, _, _, rfl, rfl, st _ _ hT4, lt1000 (by rw [List.length_map]; omega), ?_⟩
        refine ⟨_, ts ++ [t], ss ++ [.ins (b + (d2 : Nat))], rfl, Kept.over (kp4.step st) q0, (p4.same st).upd hp (kp4.step st) q0, by rw [upd_same, List.map_append]; rfl, ?_, by rw [List.length_append]; show ss.length + 1 = i + 1; omega, ?_⟩
        · refine paired_snoc (hS4.kept (tupk_app hT4 ht)) (.of ?_)
          rw [upd_ne (ne_of_none hT4 ht).symm, upd_same]
          rfl
        · intro v hv
          rw [insd_snoc_ins] at hv
          rcases List.mem_append.mp hv with z | z
          · exact sm v z
          · rw [List.mem_singleton.mp z]
            omega
      · refine ⟨_, rfl, .inl ⟨rfl, _, SqL.of hT3⟩, (by show 2 ≤ sizeLine; decide), fun t ht => ?_⟩
        have st := same_new (o := .tup [.str "remove", .int 1]) ht
        refine ⟨q, _, _, rfl, rfl, st _ _ hT3, lt1000 (by rw [List.length_map]; omega), ?_⟩
        refine ⟨_, ts ++ [t], ss ++ [.rem], rfl, Kept.over (kp3.step st) q0, (p3.same st).upd hp (kp3.step st) q0, by rw [upd_same, List.map_append]; rfl, ?_, by rw [List.length_append]; show ss.length + 1 = i + 1; omega, ?_⟩
        · refine paired_snoc (hS3.kept (tupk_app hT3 ht)) (.of ?_)
          rw [upd_ne (ne_of_none hT3 ht).symm, upd_same]
          rfl
        · intro v hv
          rw [insd_snoc_rem] at hv
          exact sm v hv
    · rintro σ H' ⟨o, ts, ss, rfl, kp, pl, hT, hS, hl, sm⟩
      exact ⟨_, rfl, k H' q ss kp pl q0 ⟨ts, .of hT, hS⟩ (by omega) sm⟩

def spShuf (K : PySem.W.Frag) : Sp := fun vs H Q _ => ∃ (p sc a : Addr) (ss : List Stp), vs = [.ref p, .ref a] ∧ Pool K H p sc ∧ SeqAt K H a ss ∧ ss.length ≤ 40 ∧ a ≠ p ∧
  ∀ (H' : Hp) (q : Addr) (tt : List Stp), Kept [p] H H' → Pool K H' p sc → H q = none → SeqAt K H' q tt → tt.Perm ss → Q (.ref q) H'
theorem sc45 : FnScope ["_law_pool", "_law_things", "_law_left", "_law_result", "_law_k"] ["_law_pool", "_law_things"] (defScope (top 45)) := ⟨rfl, rfl, rfl, by decide +kernel, rfl, by decide +kernel, by decide +kernel⟩
theorem perm_pull {α : Type} {l : List α} {k : Nat} {x : α} (h : l[k]? = some x) : (x :: l.eraseIdx k).Perm l := by
  induction l generalizing k with
  | nil => simp at h
  | cons y r ih =>
    cases k with
    | zero =>
      have e : y = x := Option.some.inj h
      rw [e]
      exact List.Perm.refl _
    | succ k =>
      have h' : r[k]? = some x := by simpa using h
      exact (List.Perm.swap y x (r.eraseIdx k)).trans ((ih h').cons y)
theorem cal_shuf (D : Def K mg "_law_shuffled" (top 45) ["_law_pool", "_law_things"]) (T : Txt K mg) (CD : Cal P w K mg base 1 "_law_draw" (spDraw K)) : Cal P w K mg base 2 "_law_shuffled" (spShuf K) := by
  refine D.cal sc45 (fun vs H Q E h => ?_) (fun f cdv A outer s H vs Q E hr h => ?_)
  · obtain ⟨p, sc, a, ss, rfl, _⟩ := h
    rfl
  · obtain ⟨p, sc, a, ss, rfl, hp, ha, hl, nap, k⟩ := h
    refine ⟨_, pss_cons (ps_set (i := 2) sc45.nd rfl (.inl rfl) (pe_callTy call_list_of rfl T.list boot_list (pa_cons (pv 1) pa_nil)))
      (pss_cons (ps_set (i := 3) sc45.nd rfl (.inl rfl) (pe_lst pa_nil))
      (pss_cons (ps_for PassesOwn.never rfl (pi_range1 rfl T.range (pa_cons (pe_callB call_len_seq rfl T.len PySem.boot_len (pa_cons (pv 1) pa_nil)) pa_nil)) (pg_name (i := 4) sc45.nd rfl (.inl rfl))
        (pss_one (ps_expr (pe_bm PySem.F.plainAttrs_list PySem.F.slot_list_append PySem.F.type_list_append mt_append (pv 3) (pa_cons (pe_bm PySem.F.plainAttrs_list PySem.F.slot_list_pop PySem.F.type_list_pop mt_popAt (pv 2) (pa_cons (pe_cl CD hr (pa_cons (pv 0) (pa_cons (pe_callB call_len_seq rfl T.len PySem.boot_len (pa_cons (pv 2) pa_nil)) pa_nil))) pa_nil)) pa_nil)))))
      (pss_one (ps_ret (pv 3))))), ?_⟩
    obtain ⟨ts, h1, h2⟩ := ha
    have lts : ts.length = ss.length := h2.length
    refine ⟨_, rfl, a, _, rfl, .inl h1, fun L hL => ?_⟩
    have sL := same_new (o := .lst (ts.map V.ref)) hL
    refine ⟨Nat.zero_le _, fun R hR => ?_⟩
    have sR := same_new (o := .lst []) hR
    have R0 : H R = none := sL.free hR
    have nLR : L ≠ R := ne_of_none upd_same hR
    have nLp := hp.ne hL
    have nRp := hp.ne R0
    have s12 := sL.trans sR
    refine ⟨_, rfl, a, _, rfl, .inl (s12.seq h1), _, rfl, by omega, by rw [List.length_map]; omega, for_range (lo := 0) (n := (((ts.map V.ref).length : Nat) : Int).toNat) (fun i σ H' => ∃ (o : Option V) (us rs : List Addr) (lss rss : List Stp), σ = [some (.ref p), some (.ref a), some (.ref L), some (.ref R), o] ∧ Kept [p] H H' ∧ Pool K H' p sc ∧ H' L = some (.lst (us.map V.ref)) ∧ Stps K H' us lss ∧ H' R = some (.lst (rs.map V.ref)) ∧ Stps K H' rs rss ∧ (rss ++ lss).Perm ss ∧ rss.length = i)
      ⟨none, ts, [], ss, [], rfl, Same.kept s12, hp.same s12, sR _ _ upd_same, h2.kept (TupK.of s12), upd_same, .nil, List.Perm.refl _, rfl⟩ ?_ ?_⟩
    · rintro i σ H' hi ⟨o, us, rs, lss, rss, rfl, kp, pl, hU, gU, hV, gV, pm, hr'⟩
      have lU := gU.length
      have lV := gV.length
      have lpm := pm.length_eq
      rw [List.length_append] at lpm
      have hi' : i < ss.length := by
        rw [List.length_map] at hi
        omega
      refine ⟨_, rfl, .inl ⟨rfl, _, SqL.of hV⟩, _, rfl, .inl ⟨rfl, _, SqL.of hU⟩, _, rfl, _, rfl, L, _, rfl, .inl (SqL.of hU), p, sc, _, rfl, pl, by rw [List.length_map]; omega, by rw [List.length_map]; omega, fun H3 d k3 p3 hd => ?_⟩
      rw [List.length_map] at hd
      obtain ⟨xp, exp⟩ := pl.lst
      have tk3 := Kept.tk exp k3
      have hU3 := k3 _ _ hU (fun z => nLp (List.mem_singleton.mp z))
      have hV3 := k3 _ _ hV (fun z => nRp (List.mem_singleton.mp z))
      have hdl : d < us.length := by omega
      have hix := ixN_seq (ixN_at (n := (us.map V.ref).length) (z := (d : Int)) (j := d) rfl (by rw [List.length_map]; exact hdl))
      obtain ⟨x, hx⟩ : ∃ x, us[d]? = some x := ⟨_, List.getElem?_eq_getElem hdl⟩
      obtain ⟨sx, gx, qx⟩ := paired_at (gU.kept tk3) hx
      have hx' : (us.map V.ref)[d]? = some (.ref x) := by
        rw [List.getElem?_map, hx]
        rfl
      refine ⟨L, _, (d : Int), d, .ref x, rfl, rfl, hU3, by omega, by omega, hix.1, hx', ?_⟩
      rw [erase_mapR]
      have hV4 : upd H3 L (.lst ((us.eraseIdx d).map V.ref)) R = some (.lst (rs.map V.ref)) := by
        rw [upd_ne nLR.symm]
        exact hV3
      have tk4 : TupK H3 (upd (upd H3 L (.lst ((us.eraseIdx d).map V.ref))) R (.lst (rs.map V.ref ++ [.ref x]))) := (tupk_set hU3).trans (tupk_set hV4)
      refine ⟨R, _, _, rfl, rfl, hV4, lt1000 (by rw [List.length_map]; omega), ?_⟩
      have kp4 := Kept.over (kp.trans k3) (o := .lst ((us.eraseIdx d).map V.ref)) hL
      refine ⟨_, us.eraseIdx d, rs ++ [x], lss.eraseIdx d, rss ++ [sx], rfl, Kept.over kp4 R0, ((p3.upd hp (kp.trans k3) hL).upd hp kp4 R0), by rw [upd_ne nLR, upd_same], paired_erase d (gU.kept (tk3.trans tk4)), by rw [upd_same, List.map_append]; rfl, paired_snoc (gV.kept (tk3.trans tk4)) (tk4.sqT qx), ?_, by rw [List.length_append]; show rss.length + 1 = i + 1; omega⟩
      rw [List.append_assoc]
      exact ((perm_pull gx).append_left rss).trans pm
    · rintro σ H' ⟨o, us, rs, lss, rss, rfl, kp, pl, hU, gU, hV, gV, pm, hr'⟩
      have lpm := pm.length_eq
      rw [List.length_append] at lpm
      rw [List.length_map] at hr'
      have e0 : lss = [] := List.length_eq_zero_iff.mp (by omega)
      rw [e0, List.append_nil] at pm
      exact ⟨_, rfl, k H' R rss kp pl R0 ⟨rs, .of hV, gV⟩ pm⟩
end
end HX
set_option Elab.async false
set_option linter.all false
set_option maxRecDepth 100000
set_option maxHeartbeats 1000000
/-! The law's wandered, target, leads. -/
namespace HX
open PySem PySem.Spec PyProof.Rows L2 LamX
theorem Kept.tkp {K : PySem.W.Frag} {H H' : Hp} {p sc : Addr} (h : Pool K H p sc) (k : Kept [p] H H') : TupK H H' := by
  obtain ⟨xs, e⟩ := h.lst
  exact Kept.tk e k
theorem SeqAt.keptP {K : PySem.W.Frag} {H H' : Hp} {p sc a : Addr} {ss : List Stp} (h : SeqAt K H a ss) (pl : Pool K H p sc) (k : Kept [p] H H') (n : a ≠ p) : SeqAt K H' a ss :=
  SeqAt.kept k (fun z => n (List.mem_singleton.mp z)) (Kept.tkp pl k) h
theorem Pool.free {K : PySem.W.Frag} {H H' : Hp} {p sc : Addr} (h : Pool K H' p sc) (k : Kept [p] H H') {b : Addr} (hb : H' b = none) : H b = none := Kept.free k (fun x hx => by
  rw [List.mem_singleton.mp hx]
  obtain ⟨xs, e⟩ := h.lst
  exact ⟨_, e⟩) hb
theorem path_uniq : ∀ {ks : List Nat} {a b b' : List Stp}, Path a ks b → Path a ks b' → b = b'
  | [], _, _, _, h, h' => (show _ = _ from h).symm.trans (show _ = _ from h')
  | k :: ks, _, _, _, h, h' => path_uniq (ks := ks) h.2 h'.2
section
variable {P : Program} {w : World} {K : PySem.W.Frag} {mg : Str → Option Value} {base : Heap}
def spWand (K : PySem.W.Frag) : Sp := fun vs H Q _ => ∃ (p sc a : Addr) (ss : List Stp), vs = [.ref p, .ref a] ∧ Pool K H p sc ∧ SeqAt K H a ss ∧ ss.length ≤ 40 ∧ a ≠ p ∧
  ∀ (H' : Hp) (q : Addr) (tt : List Stp), Kept [p] H H' → Pool K H' p sc → H q = none → SeqAt K H' q tt → eff tt = eff ss → tt.length = ss.length → Q (.ref q) H'
theorem sc47 : FnScope ["_law_pool", "_law_steps_here", "_law_current", "_law_survivors", "_law_k", "_law_after"] ["_law_pool", "_law_steps_here"] (defScope (top 47)) := ⟨rfl, rfl, rfl, by decide +kernel, rfl, by decide +kernel, by decide +kernel⟩
theorem eff_swap {ss : List Stp} {k : Nat} (h : k + 1 < ss.length) (e : surv (swp ss k) = surv ss) : eff (swp ss k) = eff ss := eff_iff.mpr ⟨insd_perm (swp_perm h), nrem_perm (swp_perm h), e⟩
theorem cal_wand (D : Def K mg "_law_wandered" (top 47) ["_law_pool", "_law_steps_here"]) (T : Txt K mg) (CD : Cal P w K mg base 1 "_law_draw" (spDraw K)) (CT : Cal P w K mg base 2 "_law_triple" (spTriple K)) (CS : Cal P w K mg base 1 "_law_swapped" (spExch K)) :
    Cal P w K mg base 3 "_law_wandered" (spWand K) := by
  refine D.cal sc47 (fun vs H Q E h => ?_) (fun f cdv A outer s H vs Q E hr h => ?_)
  · obtain ⟨p, sc, a, ss, rfl, _⟩ := h
    rfl
  · obtain ⟨p, sc, a, ss, rfl, hp, ha, hl, nap, k⟩ := h
    have hu := hr.units
    refine ⟨_, pss_cons (ps_set (i := 2) sc47.nd rfl (.inl rfl) (pe_callTy call_list_of rfl T.list boot_list (pa_cons (pv 1) pa_nil)))
      (pss_cons (ps_set (i := 3) sc47.nd rfl (.inl rfl) (pe_ix ix_tup (pe_cl CT hr (pa_cons (pv 1) pa_nil)) pe_int (fun _ _ => rfl)))
      (pss_cons (ps_for PassesOwn.never rfl (pi_range1 rfl T.range (pa_cons (pe_cl CD hr (pa_cons (pv 0) (pa_cons pe_int pa_nil))) pa_nil)) (pg_name (i := 4) sc47.nd rfl (.inl rfl))
        (pss_one (ps_if (pt_cmpR op_gt (pe_callB call_len_seq rfl T.len PySem.boot_len (pa_cons (pv 1) pa_nil)) pe_int (nomark _))
          (pss_cons (ps_set (i := 5) sc47.nd rfl (.inl rfl) (pe_cl CS hr (pa_cons (pv 2) (pa_cons (pe_cl CD hr (pa_cons (pv 0) (pa_cons (pe_op op_sub (pe_callB call_len_seq rfl T.len PySem.boot_len (pa_cons (pv 1) pa_nil)) pe_int) pa_nil))) pa_nil))))
          (pss_one (ps_set (i := 2) sc47.nd rfl (.inl rfl) (pe_ifExp (pt_cmpR (op_eqP hu) (pe_ix ix_tup (pe_cl CT hr (pa_cons (pv 5) pa_nil)) pe_int (fun _ _ => rfl)) (pv 3) (nomark _)) (pv 5) (pv 2))))) pss_nil)))
      (pss_one (ps_ret (pv 2))))), ?_⟩
    have ha0 := ha
    obtain ⟨ts, h1, h2⟩ := ha
    have lts : ts.length = ss.length := h2.length
    refine ⟨_, rfl, a, _, rfl, .inl h1, fun L hL => ?_⟩
    have sL := same_new (o := .lst (ts.map V.ref)) hL
    have nLp := hp.ne hL
    refine ⟨_, rfl, a, ss, rfl, ha0.same sL, hl, fun v H1 s1 e1 => ?_⟩
    obtain ⟨b, x, y, rfl, hb, bx, by1⟩ := e1
    have s01 := sL.trans s1
    have seqL : SeqAt K H1 L ss := ⟨ts, .of (s1 _ _ upd_same), h2.kept (TupK.of s01)⟩
    refine ⟨b, _, 2, _, rfl, rfl, hb, rfl, ?_⟩
    have p1 := hp.same s01
    refine ⟨_, rfl, p, sc, 30, rfl, p1, by decide, by decide, fun H2 d k2 p2 hd => ?_⟩
    have k02 : Kept [p] H H2 := (Same.kept s01).trans k2
    refine ⟨(d : Nat), rfl, by omega, by omega, for_range (lo := 0) (n := ((d : Nat) : Int).toNat) (fun i σ H' => ∃ (o4 o5 : Option V) (q : Addr) (cur : List Stp), σ = [some (.ref p), some (.ref a), some (.ref q), some y, o4, o5] ∧ Kept [p] H H' ∧ Pool K H' p sc ∧ BagAt K H' y (bag (surv ss)) ∧ H q = none ∧ SeqAt K H' q cur ∧ eff cur = eff ss ∧ cur.length = ss.length)
      ⟨none, none, L, ss, rfl, k02, p2, by1.kept (Kept.tkp p1 k2), hL, seqL.keptP p1 k2 nLp, rfl, rfl⟩ ?_ ?_⟩
    · rintro i σ H' hi ⟨o4, o5, q, cur, rfl, kp, pl, by', q0, hcur, he, hlen⟩
      have ha' := ha0.keptP hp kp nap
      obtain ⟨us, g1, g2⟩ := ha'
      have lus : us.length = ss.length := g2.length
      have nqp := hp.ne q0
      refine ⟨_, rfl, a, _, rfl, .inl g1, _, _, rfl, rfl, _, rfl, ?_⟩
      refine ite2 (fun hc => ?_) (fun hc => ?_)
      · have hc' : (1 : Int) < ((us.map V.ref).length : Int) := of_decide_eq_true hc
        rw [List.length_map] at hc'
        refine ⟨_, rfl, _, rfl, _, rfl, a, _, rfl, .inl g1, _, _, rfl, rfl, p, sc, _, rfl, pl, by rw [List.length_map]; omega, by rw [List.length_map]; omega, fun H3 j k3 p3 hj => ?_⟩
        rw [List.length_map] at hj
        have hcur3 := hcur.keptP pl k3 nqp
        obtain ⟨vs, f1, f2⟩ := id hcur3
        have lvs : vs.length = cur.length := f2.length
        have hjc : j + 1 < cur.length := by omega
        refine ⟨q, _, j, rfl, f1, by rw [List.length_map]; omega, by rw [List.length_map]; omega, fun q2 H4 s4 q20 hq2 => ?_⟩
        have kp4 : Kept [p] H H4 := (kp.trans k3).step s4
        have p4 := p3.same s4
        have q200 : H q2 = none := p3.free (kp.trans k3) q20
        have seq4 : SeqAt K H4 q2 (swp cur j) := .swp hjc (f2.kept (TupK.of s4)) hq2
        refine ⟨_, rfl, q2, swp cur j, rfl, seq4, by rw [swp_len hjc]; omega, fun v5 H5 s5 e5 => ?_⟩
        obtain ⟨b5, x5, y5, rfl, hb5, bx5, by5⟩ := e5
        have kp5 : Kept [p] H H5 := kp4.step s5
        have by'' : BagAt K H5 y (bag (surv ss)) := (by'.kept (Kept.tkp pl k3)).kept (TupK.of (s4.trans s5))
        refine ⟨b5, _, 2, _, rfl, rfl, hb5, rfl, _, rfl, _, _, by5.dp, by''.dp, plain_bagD _, plain_bagD _, Nat.le_trans (depth_bagD _) (by decide), _, rfl, ?_⟩
        rw [eqv_dec eqv_bagD]
        refine ite2 (fun hb => ?_) (fun hb => ?_)
        · have hb : bag (surv (swp cur j)) = bag (surv ss) := of_decide_eq_true hb
          have hsv : surv (swp cur j) = surv cur := (surv_of_bag hb).trans (eff_iff.mp he).2.2.symm
          exact ⟨_, rfl, _, _, q2, swp cur j, rfl, kp5, p4.same s5, by'', q200, seq4.same s5, (eff_swap hjc hsv).trans he, by rw [swp_len hjc]; exact hlen⟩
        · exact ⟨_, rfl, _, _, q, cur, rfl, kp5, p4.same s5, by'', q0, hcur3.same (s4.trans s5), he, hlen⟩
      · exact ⟨_, _, q, cur, rfl, kp, pl, by', q0, hcur, he, hlen⟩
    · rintro σ H' ⟨o4, o5, q, cur, rfl, kp, pl, by', q0, hcur, he, hlen⟩
      exact ⟨_, rfl, k H' q cur kp pl q0 hcur he hlen⟩
def spTarget (K : PySem.W.Frag) : Sp := fun vs H Q _ => ∃ (p sc a : Addr) (ss : List Stp), vs = [.ref p, .ref a] ∧ Pool K H p sc ∧ SeqAt K H a ss ∧ ss.length ≤ 40 ∧ a ≠ p ∧ Sm ss ∧
  ∀ (H' : Hp) (q : Addr) (tt : List Stp), Kept [p] H H' → Pool K H' p sc → H q = none → SeqAt K H' q tt → tt.length = ss.length → Sm tt → Q (.ref q) H'
theorem sc49 : FnScope ["_law_pool", "_law_steps_here", "_law_way"] ["_law_pool", "_law_steps_here"] (defScope (top 49)) := ⟨rfl, rfl, rfl, by decide +kernel, rfl, by decide +kernel, by decide +kernel⟩
theorem Sm.eff {ss tt : List Stp} (h : Sm ss) (e : eff tt = eff ss) : Sm tt := h.of (eff_iff.mp e).1
theorem cal_target (D : Def K mg "_law_target" (top 49) ["_law_pool", "_law_steps_here"]) (T : Txt K mg) (CD : Cal P w K mg base 1 "_law_draw" (spDraw K)) (CW : Cal P w K mg base 3 "_law_wandered" (spWand K)) (CN : Cal P w K mg base 3 "_law_normal" (spNormal K)) (CSh : Cal P w K mg base 2 "_law_shuffled" (spShuf K)) (CSt : Cal P w K mg base 3 "_law_steps" (spSteps K)) :
    Cal P w K mg base 4 "_law_target" (spTarget K) := by
  refine D.cal sc49 (fun vs H Q E h => ?_) (fun f cdv A outer s H vs Q E hr h => ?_)
  · obtain ⟨p, sc, a, ss, rfl, _⟩ := h
    rfl
  · obtain ⟨p, sc, a, ss, rfl, hp, ha, hl, nap, sm, k⟩ := h
    refine ⟨_, pss_cons (ps_set (i := 2) sc49.nd rfl (.inl rfl) (pe_cl CD hr (pa_cons (pv 0) (pa_cons pe_int pa_nil))))
      (pss_cons (ps_if (pt_cmpR op_lt (pv 2) pe_int (nomark _)) (pss_one (ps_ret (pe_cl CW hr (pa_cons (pv 0) (pa_cons (pv 1) pa_nil))))) pss_nil)
      (pss_cons (ps_if (pt_cmpR op_eq (pv 2) pe_int (nomark _)) (pss_one (ps_ret (pe_cl CN hr (pa_cons (pv 1) pa_nil)))) pss_nil)
      (pss_cons (ps_if (pt_cmpR op_eq (pv 2) pe_int (nomark _)) (pss_one (ps_ret (pe_cl CSh hr (pa_cons (pv 0) (pa_cons (pv 1) pa_nil))))) pss_nil)
      (pss_one (ps_ret (pe_cl CSt hr (pa_cons (pv 0) (pa_cons (pe_callB call_len_seq rfl T.len PySem.boot_len (pa_cons (pv 1) pa_nil)) (pa_cons pe_int pa_nil))))))))), ?_⟩
    refine ⟨_, rfl, p, sc, 5, rfl, hp, by decide, by decide, fun H1 d k1 p1 hd => ?_⟩
    have ha1 := ha.keptP hp k1 nap
    refine ⟨_, rfl, _, _, rfl, rfl, _, rfl, ite2 (fun _ => ?_) (fun _ => ?_)⟩
    · exact ⟨_, rfl, _, rfl, p, sc, a, ss, rfl, p1, ha1, hl, nap, fun H2 q tt k2 p2 q0 hq he hlen => k H2 q tt (k1.trans k2) p2 (p1.free k1 q0) hq hlen (sm.eff he)⟩
    refine ⟨_, rfl, rfl, _, rfl, ite2 (fun _ => ?_) (fun _ => ?_)⟩
    · exact ⟨_, rfl, a, ss, rfl, ha1, hl, fun q H2 tt s2 q0 hq he hlen => k H2 q tt (k1.step s2) (p1.same s2) (p1.free k1 q0) hq hlen (sm.eff he)⟩
    refine ⟨_, rfl, rfl, _, rfl, ite2 (fun _ => ?_) (fun _ => ?_)⟩
    · exact ⟨_, rfl, _, rfl, p, sc, a, ss, rfl, p1, ha1, hl, nap, fun H2 q tt k2 p2 q0 hq pm => k H2 q tt (k1.trans k2) p2 (p1.free k1 q0) hq pm.length_eq (sm.of (insd_perm pm))⟩
    · obtain ⟨us, g1, g2⟩ := ha1
      have e1 : (us.map V.ref).length = ss.length := by rw [List.length_map, g2.length]
      exact ⟨_, rfl, _, rfl, a, _, rfl, .inl g1, p, sc, ss.length, 3, by rw [e1], p1, hl, by decide, by decide, fun H2 q tt k2 p2 q0 hq hlen sm2 => k H2 q tt (k1.trans k2) p2 (p1.free k1 q0) hq hlen sm2⟩

/-! ### leads -/
def spLeads (K : PySem.W.Frag) : Sp := fun vs H Q _ => ∃ (a b c : Addr) (ss tt : List Stp) (es : List Nat), vs = [.ref a, .ref b, .ref c] ∧ SeqAt K H a ss ∧ SeqAt K H b tt ∧ SqL K H c (NI_ es) ∧ Path ss es tt ∧ ss.length ≤ 40 ∧ ∀ H', Same H H' → Q (.bl true) H'
theorem sc50 : FnScope ["_law_steps_here", "_law_target_here", "_law_indexes", "_law_current", "_law_survivors", "_law_index", "_law_after"] ["_law_steps_here", "_law_target_here", "_law_indexes"] (defScope (top 50)) := ⟨rfl, rfl, rfl, by decide +kernel, rfl, by decide +kernel, by decide +kernel⟩
theorem cal_leads (D : Def K mg "_law_leads" (top 50) ["_law_steps_here", "_law_target_here", "_law_indexes"]) (T : Txt K mg) (CT : Cal P w K mg base 2 "_law_triple" (spTriple K)) (CS : Cal P w K mg base 1 "_law_swapped" (spExch K)) : Cal P w K mg base 3 "_law_leads" (spLeads K) := by
  refine D.cal sc50 (fun vs H Q E h => ?_) (fun f cdv A outer s H vs Q E hr h => ?_)
  · obtain ⟨a, b, c, ss, tt, es, rfl, _⟩ := h
    rfl
  · obtain ⟨a, b, c, ss, tt, es, rfl, ha, hb, hc, pth, la, k⟩ := h
    have hu := hr.units
    refine ⟨_, pss_cons (ps_set (i := 3) sc50.nd rfl (.inl rfl) (pv 0))
      (pss_cons (ps_set (i := 4) sc50.nd rfl (.inl rfl) (pe_ix ix_tup (pe_cl CT hr (pa_cons (pv 0) pa_nil)) pe_int (fun _ _ => rfl)))
      (pss_cons (ps_for PassesOwn.never rfl (pi_list (pv 2)) (pg_name (i := 5) sc50.nd rfl (.inl rfl))
        (pss_cons (ps_if (PW.pt (pw_or (pt_not (pt_val (pe_callB call_isi_int rfl T.isi boot_isinstance (pa_cons (pv 5) (pa_cons (pe_bltn (v := .ty "int") rfl T.int boot_int rfl) pa_nil)))))
            (pw_or (pt_val (pe_callB call_isi_bool rfl T.isi boot_isinstance (pa_cons (pv 5) (pa_cons (pe_bltn (v := .ty "bool") rfl T.bool boot_bool rfl) pa_nil))))
            (pw_or1 (pt_not (pt_chain op_le op_lt pe_int (pv 5) (pe_op op_sub (pe_callB call_len_seq rfl T.len PySem.boot_len (pa_cons (pv 3) pa_nil)) pe_int))))))) pss_never pss_nil)
        (pss_cons (ps_set (i := 6) sc50.nd rfl (.inl rfl) (pe_cl CS hr (pa_cons (pv 3) (pa_cons (pv 5) pa_nil))))
        (pss_cons (ps_if (PW.pt (pw_or (pt_cmpR (op_eqP hu) (pv 6) (pv 3) (nomark _)) (pw_or1 (pt_cmpR (op_neP hu) (pe_ix ix_tup (pe_cl CT hr (pa_cons (pv 6) pa_nil)) pe_int (fun _ _ => rfl)) (pv 4) (nomark _))))) pss_never pss_nil)
        (pss_one (ps_set (i := 3) sc50.nd rfl (.inl rfl) (pv 6)))))))
      (pss_one (ps_ret (pe_cmpR (op_eqP hu) (pv 3) (pv 1) (nomark _)))))), ?_⟩
    refine ⟨_, rfl, _, rfl, a, ss, rfl, ha, la, fun v H1 s1 e1 => ?_⟩
    obtain ⟨b1, x, y, rfl, hb1, bx, by1⟩ := e1
    refine ⟨b1, _, 2, _, rfl, rfl, hb1, rfl, ?_⟩
    refine ⟨_, rfl, c, rfl, ⟨_, s1.seq hc⟩, for_list (K := K) (a := c) (xs := NI_ es) (fun i σ H' => ∃ (d : Addr) (o5 o6 : Option V) (cur : List Stp), σ = [some (.ref a), some (.ref b), some (.ref c), some (.ref d), some y, o5, o6] ∧ Same H1 H' ∧ SeqAt K H' d cur ∧ Path ss (es.take i) cur)
      ⟨a, none, none, ss, rfl, .refl _, ha.same s1, rfl⟩ (fun i σ H' _ ⟨_, _, _, _, _, sm, _⟩ => (s1.trans sm).seq hc) ?_ ?_⟩
    · rintro i xv σ H' hi ⟨d, o5, o6, cur, rfl, sm, hcur, hp⟩
      obtain ⟨kk, hk, rfl⟩ := nats_get hi
      have ok := pth.at_ hk hp
      have okl := ok.lt
      have lc := hp.len
      obtain ⟨us, q1, q2⟩ := id hcur
      have lu : (us.map V.ref).length = cur.length := by rw [List.length_map, q2.length]
      refine ⟨_, rfl, _, _, rfl, .int _, _, rfl, ite_no (fun z => nomatch (show false = true from z)) ?_⟩
      refine ⟨_, rfl, _, _, rfl, .int _, _, rfl, ite_no (fun z => nomatch (show false = true from z)) ?_⟩
      refine ⟨_, rfl, _, _, rfl, rfl, _, rfl, ite_yes (decide_eq_true (by omega)) ⟨_, rfl, d, _, rfl, .inl q1, _, _, rfl, rfl, _, _, rfl, rfl, _, rfl, iteNS (by omega) ?_⟩⟩
      refine ⟨_, rfl, _, rfl, d, _, kk, rfl, q1, by omega, by omega, fun p H3 s3 p0 hP => ?_⟩
      have seq3 : SeqAt K H3 p (swp cur kk) := .swp okl (q2.kept (TupK.of s3)) hP
      have cur3 := hcur.same s3
      have ne1 : PyData.eqv (seqD (swp cur kk)) (seqD cur) = false := by
        rw [eqv_dec eqv_seqD]
        exact decide_eq_false fun e => ok.ne ((swp_eq_iff okl).mp e)
      refine ⟨_, rfl, _, rfl, _, _, seq3.dp, cur3.dp, plain_seqD _, plain_seqD _, Nat.le_trans (depth_seqD _) (by decide), false, by rw [ne1], iteF ?_⟩
      refine ⟨_, rfl, p, _, rfl, seq3, by rw [swp_len okl]; omega, fun v4 H4 s4 e4 => ?_⟩
      obtain ⟨b4, x4, y4, rfl, hb4, bx4, by4⟩ := e4
      have by'' := by1.kept (TupK.of ((sm.trans s3).trans s4))
      have hsv : surv (swp cur kk) = surv ss := ok.keep.trans hp.surv
      have ne2 : PyData.eqv (bagD (bag (surv (swp cur kk)))) (bagD (bag (surv ss))) = true := by
        rw [hsv]
        exact (eqv_bagD _ _).mpr rfl
      refine ⟨b4, _, 2, _, rfl, rfl, hb4, rfl, _, rfl, _, _, by4.dp, by''.dp, plain_bagD _, plain_bagD _, Nat.le_trans (depth_bagD _) (by decide), false, ?_, iteF ?_⟩
      · show V.bl (!PyData.eqv (bagD (bag (surv (swp cur kk)))) (bagD (bag (surv ss)))) = _
        rw [ne2]
        rfl
      · refine ⟨_, rfl, p, _, _, _, rfl, (sm.trans s3).trans s4, seq3.same s4, ?_⟩
        rw [take_snoc hk]
        exact hp.append ⟨ok, rfl⟩
    · rintro σ H' ⟨d, o5, o6, cur, rfl, sm, hcur, hp⟩
      rw [take_all (List.length_map _)] at hp
      have e := path_uniq hp pth
      subst e
      refine ⟨_, rfl, _, rfl, _, _, hcur.dp, (hb.same (s1.trans sm)).dp, plain_seqD _, plain_seqD _, Nat.le_trans (depth_seqD _) (by decide), ?_⟩
      rw [(eqv_seqD _ _).mpr rfl]
      exact k _ (s1.trans sm)
end
end HX
set_option Elab.async false
set_option linter.all false
set_option maxRecDepth 100000
set_option maxHeartbeats 1000000
/-! What repr makes of two sequences is short. -/
namespace HX
open PySem PySem.Spec PyProof.Rows L2
theorem join_le {B : Nat} : ∀ ts : List Str, (∀ t ∈ ts, t.length ≤ B) → (Str.join ", " ts).length ≤ ts.length * (B + 2)
  | [], _ => Nat.zero_le _
  | [x], h => by
    have := h x List.mem_cons_self
    show x.length ≤ 1 * (B + 2)
    omega
  | x :: y :: r, h => by
    have h1 := h x List.mem_cons_self
    have ih := join_le (y :: r) fun t ht => h t (List.mem_cons_of_mem _ ht)
    show (x ++ ", " ++ Str.join ", " (y :: r)).length ≤ _
    rw [Str.length_append, Str.length_append]
    have e : ((", " : Str)).length = 2 := rfl
    rw [e, List.length_cons (a := x), Nat.add_mul]
    omega
theorem int_len {v : Int} (h : v.natAbs ≤ 1000000000000000000000000000) : ((toString v : String) : Str).length ≤ 30 := by
  have e := int_text_length_le10 (a := v) (k := 28) (by decide) (by omega)
  have e2 : ((toString v : String) : Str).length = (toString v).length := PySem.ofString_length _
  omega
theorem step_shown {s : Stp} (h : ∀ v ∈ insS s, v.natAbs ≤ 1000000000000000000000000000) : (stepD s).shown.length ≤ 110 := by
  cases s with
  | ins v =>
    show (PyData.tuple [.str "insert", .int v, .int 1]).shown.length ≤ _
    rw [PyData.shown_tuple, Str.length_append, Str.length_append]
    have hj := join_le (B := 30) (PyData.shownAll [.str "insert", .int v, .int 1]) (by
      intro t ht
      rw [PyData.shownAll_cons, PyData.shownAll_cons, PyData.shownAll_cons, PyData.shownAll_nil, PyData.shown_str, PyData.shown_int, PyData.shown_int] at ht
      rcases List.mem_cons.mp ht with z | ht
      · rw [z]
        exact Nat.le_trans (show (reprText "insert").length ≤ 8 by decide +kernel) (by decide)
      · rcases List.mem_cons.mp ht with z | ht
        · rw [z]
          exact int_len (h v List.mem_cons_self)
        · rw [List.mem_singleton.mp ht]
          exact int_len (by decide))
    rw [PyData.shownAll_length] at hj
    have e1 : (("(" : Str)).length = 1 := rfl
    have e2 : ((if ([PyData.str "insert", .int v, .int 1] : List PyData).length == 1 then ",)" else ")" : String) : Str).length = 1 := rfl
    have e3 : ([PyData.str "insert", .int v, .int 1] : List PyData).length = 3 := rfl
    rw [e1, e2]
    rw [e3] at hj
    omega
  | rem => exact (by decide +kernel : (stepD .rem).shown.length ≤ 110)
theorem seq_shown {ss : List Stp} (h : Sm ss) : (seqD ss).shown.length ≤ ss.length * 112 + 2 := by
  show (PyData.list (ss.map stepD)).shown.length ≤ _
  rw [PyData.shown_list, Str.length_append, Str.length_append]
  have all : ∀ (l : List Stp), (∀ s ∈ l, ∀ v ∈ insS s, v.natAbs ≤ 1000000000000000000000000000) → ∀ t ∈ PyData.shownAll (l.map stepD), t.length ≤ 110 := by
    intro l
    induction l with
    | nil => intro _ t ht; rw [List.map_nil, PyData.shownAll_nil] at ht; cases ht
    | cons s r ih =>
      intro hl t ht
      rw [List.map_cons, PyData.shownAll_cons] at ht
      rcases List.mem_cons.mp ht with z | z
      · rw [z]
        exact step_shown (hl s List.mem_cons_self)
      · exact ih (fun s hs => hl s (List.mem_cons_of_mem _ hs)) t z
  have hj := join_le (B := 110) (PyData.shownAll (ss.map stepD)) (all ss fun s hs v hv => h v (by
    cases s with
    | ins u =>
      have e : v = u := List.mem_singleton.mp hv
      rw [e]
      exact List.mem_filterMap.mpr ⟨_, hs, rfl⟩
    | rem => cases hv))
  rw [PyData.shownAll_length, List.length_map] at hj
  have e1 : (("[" : Str)).length = 1 := rfl
  have e2 : (("]" : Str)).length = 1 := rfl
  rw [e1, e2]
  omega
theorem pair_shown {ss tt : List Stp} (h1 : Sm ss) (h2 : Sm tt) (l1 : ss.length ≤ 40) (l2 : tt.length ≤ 40) : (PyData.list [seqD ss, seqD tt]).shown.length ≤ sizeLine := by
  rw [PyData.shown_list, Str.length_append, Str.length_append]
  have hj := join_le (B := 4482) (PyData.shownAll [seqD ss, seqD tt]) (by
    intro t ht
    rw [PyData.shownAll_cons, PyData.shownAll_cons, PyData.shownAll_nil] at ht
    rcases List.mem_cons.mp ht with z | z
    · rw [z]
      have := seq_shown h1
      omega
    · rw [List.mem_singleton.mp z]
      have := seq_shown h2
      omega)
  rw [PyData.shownAll_length] at hj
  have e0 : ([seqD ss, seqD tt] : List PyData).length = 2 := rfl
  have e1 : (("[" : Str)).length = 1 := rfl
  have e2 : (("]" : Str)).length = 1 := rfl
  rw [e0] at hj
  rw [e1, e2, sizeLine_eq]
  omega
theorem step_showable {s : Stp} (h : ∀ v ∈ insS s, v.natAbs ≤ 1000000000000000000000000000) : (stepD s).showable = true := by
  cases s with
  | ins v =>
    have hv := h v List.mem_cons_self
    show (PyData.tuple [.str "insert", .int v, .int 1]).showable = true
    have e : v.natAbs.log2 < 1920 := by
      by_cases z : v.natAbs = 0
      · rw [z]
        decide
      · have h2 : v.natAbs < 2 ^ 100 := Nat.lt_of_le_of_lt hv (by decide)
        have h3 := (Nat.log2_lt z).mpr h2
        omega
    simp only [PyData.showable, PyData.showableAll, Bool.and_eq_true, decide_eq_true_eq, and_true, true_and]
    exact ⟨e, by decide⟩
  | rem => exact (by decide +kernel : (stepD .rem).showable = true)
theorem seq_showable {ss : List Stp} (h : Sm ss) : (seqD ss).showable = true := by
  have e : PyData.showableAll (ss.map stepD) = true := PySem.Spec.showableAll_of fun x hx => by
    obtain ⟨s, hs, rfl⟩ := List.mem_map.mp hx
    refine step_showable fun v hv => h v ?_
    cases s with
    | ins u =>
      have e : v = u := List.mem_singleton.mp hv
      rw [e]
      exact List.mem_filterMap.mpr ⟨_, hs, rfl⟩
    | rem => cases hv
  show (PyData.list (ss.map stepD)).showable = true
  simp only [PyData.showable]
  exact e
theorem pair_showable {ss tt : List Stp} (h1 : Sm ss) (h2 : Sm tt) : (PyData.list [seqD ss, seqD tt]).showable = true := by
  have e : PyData.showableAll [seqD ss, seqD tt] = true := PySem.Spec.showableAll_of fun x hx => by
    rcases List.mem_cons.mp hx with z | z
    · rw [z]
      exact seq_showable h1
    · rw [List.mem_singleton.mp z]
      exact seq_showable h2
  simp only [PyData.showable]
  exact e
theorem step_nodict (s : Stp) : (stepD s).hasDict = false := by cases s <;> rfl
theorem seq_nodict (ss : List Stp) : (seqD ss).hasDict = false := by
  have e : ∀ l : List Stp, PyData.hasDictAll (l.map stepD) = false := by
    intro l
    induction l with
    | nil => rfl
    | cons s r ih =>
      show ((stepD s).hasDict || PyData.hasDictAll (r.map stepD)) = false
      rw [step_nodict, ih]
      rfl
  exact e ss
theorem pair_nodict (ss tt : List Stp) : (PyData.list [seqD ss, seqD tt]).hasDict = false := by
  show ((seqD ss).hasDict || ((seqD tt).hasDict || false)) = false
  rw [seq_nodict, seq_nodict]
  rfl
theorem pair_depth (ss tt : List Stp) : (PyData.list [seqD ss, seqD tt]).depth ≤ 60 := by
  have h1 := depth_seqD ss
  have h2 := depth_seqD tt
  show max (seqD ss).depth (max (seqD tt).depth 0) + 1 ≤ 60
  omega
end HX
set_option Elab.async false
set_option linter.all false
set_option maxRecDepth 100000
set_option maxHeartbeats 1000000
/-! The law's long part. -/
namespace HX
open PySem PySem.Spec PyProof.Rows L2 LamX
theorem Kept.nl {H H' : Hp} {p : Addr} {xs : List V} (h : H p = some (.lst xs)) (k : Kept [p] H H') : NL H H' := fun b o e n => k b o e fun z => by
  rw [List.mem_singleton.mp z, h] at e
  exact n xs (Option.some.inj e).symm
theorem Tabs.keptP {K : PySem.W.Frag} {Tb : List (Addr × Str)} {H H' : Hp} {p sc : Addr} (t : Tabs Tb H) (pl : Pool K H p sc) (k : Kept [p] H H') : Tabs Tb H' := by
  obtain ⟨xs, e⟩ := pl.lst
  exact NL.tabs t (Kept.nl e k)
def rLen (K : PySem.W.Frag) : List V → Hp → VK → Prop := fun xs H Q => ∃ p ys, xs = [.ref p] ∧ (SqL K H p ys ∨ SqT K H p ys) ∧ Q (.int ys.length) H
theorem cr_len {X : Cx} : CallR X (.builtin "len") (rLen X.K) := call_len_seq
theorem SqL.keptP {K : PySem.W.Frag} {H H' : Hp} {p a : Addr} {xs : List V} (h : SqL K H a xs) (k : Kept [p] H H') (n : a ≠ p) : SqL K H' a xs := k.lst (fun z => n (List.mem_singleton.mp z)) h
theorem flat_ints : ∀ ns : List Int, (ns.map V.int).all flatV = true
  | [] => rfl
  | _ :: ns => flat_ints ns
section
variable {P : Program} {w : World} {K : PySem.W.Frag} {mg : Str → Option Value} {base : Heap}
def spLong (K : PySem.W.Frag) (Tb : List (Addr × Str)) : Sp := fun vs H Q _ => ∃ (p sc : Addr), vs = [.ref p] ∧ Pool K H p sc ∧ Tabs Tb H ∧ ∀ H', Pool K H' p sc → Tabs Tb H' → Q (.bl true) H'
theorem sc51 : FnScope ["_law_pool", "_law_steps_here", "_law_target_here", "_law_found", "_law_looked", "_law_survivors", "_law_current", "_law_position", "_law_after", "_law_k"] ["_law_pool"] (defScope (top 51)) := ⟨rfl, rfl, rfl, by decide +kernel, rfl, by decide +kernel, by decide +kernel⟩
theorem cal_long {Tb : List (Addr × Str)} (D : Def K mg "_law_long_right" (top 51) ["_law_pool"]) (T : Txt K mg) (CD : Cal P w K mg base 1 "_law_draw" (spDraw K)) (CSt : Cal P w K mg base 3 "_law_steps" (spSteps K)) (CW : Cal P w K mg base 3 "_law_wandered" (spWand K)) (CN : Cal P w K mg base 3 "_law_normal" (spNormal K))
    (CDer : Cal P w K mg base 6 "derivation" (spDer K Tb)) (CT : Cal P w K mg base 2 "_law_triple" (spTriple K)) (CS : Cal P w K mg base 1 "_law_swapped" (spExch K)) : Cal P w K mg base 7 "_law_long_right" (spLong K Tb) := by
  refine D.cal sc51 (fun vs H Q E h => ?_) (fun f cdv A outer s H vs Q E hr h => ?_)
  · obtain ⟨p, sc, rfl, _⟩ := h
    rfl
  · obtain ⟨p, sc, rfl, hp, hT, k⟩ := h
    have hu := hr.units
    refine ⟨_, pss_cons (ps_set (i := 1) sc51.nd rfl (.inl rfl) (pe_cl CSt hr (pa_cons (pv 0) (pa_cons (pe_ix ix_list (pe_lst (pa_cons pe_int (pa_cons (pe_cl CD hr (pa_cons (pv 0) (pa_cons pe_int pa_nil))) pa_nil))) (pe_cl CD hr (pa_cons (pv 0) (pa_cons pe_int pa_nil))) (fun _ _ => rfl)) (pa_cons (pe_op op_add pe_int (pe_cl CD hr (pa_cons (pv 0) (pa_cons pe_int pa_nil)))) pa_nil)))))
      (pss_cons (ps_set (i := 2) sc51.nd rfl (.inl rfl) (pe_ix ix_list (pe_lst (pa_cons (pe_cl CW hr (pa_cons (pv 0) (pa_cons (pv 1) pa_nil))) (pa_cons (pe_cl CN hr (pa_cons (pv 1) pa_nil)) pa_nil))) (pe_cl CD hr (pa_cons (pv 0) (pa_cons pe_int pa_nil))) (fun _ _ => rfl)))
      (pss_cons (ps_set (i := 3) sc51.nd rfl (.inr rfl) (pe_cl CDer hr (pa_cons (pv 1) (pa_cons (pv 2) pa_nil))))
      (pss_cons (ps_if (PW.pt (pw_or (pt_not (pt_val (pe_callB call_isi_list rfl T.isi boot_isinstance (pa_cons (pv 3) (pa_cons (pe_bltn (v := .ty "list") rfl T.list boot_list rfl) pa_nil)))))
          (pw_or1 (pt_cmpR op_gt (pe_callB cr_len rfl T.len PySem.boot_len (pa_cons (pv 3) pa_nil)) (pe_op op_mul (pe_callB cr_len rfl T.len PySem.boot_len (pa_cons (pv 1) pa_nil)) (pe_callB cr_len rfl T.len PySem.boot_len (pa_cons (pv 1) pa_nil))) (nomark _))))) pss_never pss_nil)
      (pss_cons (ps_setLc (i := 4) (own := [("_law_k", 9)]) (g := gName 9) (tt := tYes) (te := tCl (spDraw K) (tCons (tVar 0) (tCons (tOp (rI0 fun i j => .int (i + j)) (tC (.int 1)) (tCB (rLen K) (tCons (tVar 3) tNil))) tNil))) rfl sc51.nd rfl rfl (sw_true rfl rfl rfl (by decide +kernel)) (pi_range1 rfl T.range (pa_cons pe_int pa_nil))
          (blkOk_by (N := ["_law_pool", "_law_steps_here", "_law_target_here", "_law_found", "_law_looked", "_law_survivors", "_law_current", "_law_position", "_law_after", "_law_k"]) (sc := defScope (top 51)) (by decide +kernel))
          (fun _ _ _ _ _ => pg_name (i := 9) sc51.nd rfl (.inl rfl)) (fun _ _ _ _ _ => pts_nil) (fun _ _ _ _ _ => pe_cl CD hr (pa_cons (pv 0) (pa_cons (pe_op op_add pe_int (pe_callB cr_len rfl T.len PySem.boot_len (pa_cons (pv 3) pa_nil))) pa_nil))))
      (pss_cons (ps_set (i := 5) sc51.nd rfl (.inl rfl) (pe_ix ix_tup (pe_cl CT hr (pa_cons (pv 1) pa_nil)) pe_int (fun _ _ => rfl)))
      (pss_cons (ps_set (i := 6) sc51.nd rfl (.inl rfl) (pv 1))
      (pss_cons (ps_for PassesOwn.never rfl (pi_range1 rfl T.range (pa_cons (pe_callB cr_len rfl T.len PySem.boot_len (pa_cons (pv 3) pa_nil)) pa_nil)) (pg_name (i := 7) sc51.nd rfl (.inl rfl))
        (pss_cons (ps_if (pt_not (pt_chain op_le op_lt pe_int (pe_ix ix_list (pv 3) (pv 7) (fun _ _ => rfl)) (pe_op op_sub (pe_callB cr_len rfl T.len PySem.boot_len (pa_cons (pv 1) pa_nil)) pe_int))) pss_never pss_nil)
        (pss_cons (ps_set (i := 8) sc51.nd rfl (.inl rfl) (pe_cl CS hr (pa_cons (pv 6) (pa_cons (pe_ix ix_list (pv 3) (pv 7) (fun _ _ => rfl)) pa_nil))))
        (pss_cons (ps_if (PW.pt (pw_or (pt_cmpR (op_eqP hu) (pv 8) (pv 6) (nomark _)) (pw_or1 (PW.pt (pw_and (pt_cmpR op_in_seq (pv 7) (pv 4) rfl) (pw_and1 (pt_cmpR (op_neP hu) (pe_ix ix_tup (pe_cl CT hr (pa_cons (pv 8) pa_nil)) pe_int (fun _ _ => rfl)) (pv 5) (nomark _)))))))) pss_never pss_nil)
        (pss_one (ps_set (i := 6) sc51.nd rfl (.inl rfl) (pv 8)))))))
      (pss_one (ps_ret (pe_cmpR (op_eqP hu) (pv 6) (pv 2) (nomark _))))))))))), ?_⟩
    -- the steps
    refine ⟨_, rfl, _, rfl, p, sc, 41, rfl, hp, by decide, by decide, fun H1 d1 k1 p1 hd1 => ⟨(by show 2 ≤ sizeLine; decide), fun q1 hq1 => ?_⟩⟩
    have s1 := same_new (o := .lst [.int 40, .int (d1 : Nat)]) hq1
    have nq1 := p1.ne hq1
    refine ⟨_, rfl, p, sc, 2, rfl, p1.same s1, by decide, by decide, fun H2 j k2 p2 hj => ?_⟩
    have hq2 := k2 q1 _ (show upd H1 q1 (.lst [.int 40, .int (d1 : Nat)]) q1 = _ from upd_same) (fun z => nq1 (List.mem_singleton.mp z))
    obtain ⟨cn, hcn, hat⟩ : ∃ cn : Nat, cn ≤ 40 ∧ atI [V.int 40, V.int (d1 : Nat)] (j : Nat) = some (.int (cn : Nat)) := by
      have hj2 : j < 2 := by omega
      match j, hj2 with
      | 0, _ => exact ⟨40, Nat.le_refl _, rfl⟩
      | 1, _ => exact ⟨d1, by omega, rfl⟩
    have k02 : Kept [p] H H2 := (k1.step s1).trans k2
    refine ⟨q1, _, _, _, rfl, rfl, .of hq2, hat, _, rfl, p, sc, 4, rfl, p2, by decide, by decide, fun H3 d3 k3 p3 hd3 => ⟨_, _, rfl, rfl, ?_⟩⟩
    refine ⟨p, sc, cn, 1 + (d3 : Nat), rfl, p3, hcn, by omega, by omega, fun H4 a ss k4 p4 a0 ha hlen sm => ?_⟩
    have la : ss.length ≤ 40 := by omega
    have nap := p3.ne a0
    have k04 := (k02.trans k3).trans k4
    -- the target
    refine ⟨_, rfl, _, rfl, p, sc, a, ss, rfl, p4, ha, la, nap, fun H5 q5 t5 k5 p5 q50 hq5 e5 l5 => ?_⟩
    have ha5 := ha.keptP p4 k5 nap
    refine ⟨_, rfl, a, ss, rfl, ha5, la, fun q6 H6 t6 s6 q60 hq6 e6 l6 => ⟨(by show 2 ≤ sizeLine; decide), fun L hL => ?_⟩⟩
    have s7 := same_new (o := .lst [.ref q5, .ref q6]) hL
    have p6 := p5.same s6
    have nLp := p6.ne hL
    refine ⟨_, rfl, p, sc, 2, rfl, p6.same s7, by decide, by decide, fun H7 j7 k7 p7 hj7 => ?_⟩
    have hL7 := k7 L _ (show upd H6 L (.lst [.ref q5, .ref q6]) L = _ from upd_same) (fun z => nLp (List.mem_singleton.mp z))
    have n5 := p4.ne q50
    have n6 := p5.ne q60
    obtain ⟨b, tt, hatb, hb, he, hlt⟩ : ∃ b tt, atI [V.ref q5, V.ref q6] (j7 : Nat) = some (.ref b) ∧ SeqAt K H7 b tt ∧ eff tt = eff ss ∧ tt.length = ss.length := by
      have hj2 : j7 < 2 := by omega
      match j7, hj2 with
      | 0, _ => exact ⟨q5, t5, rfl, ((hq5.same s6).same s7).keptP (p6.same s7) k7 n5, e5, l5⟩
      | 1, _ => exact ⟨q6, t6, rfl, (hq6.same s7).keptP (p6.same s7) k7 n6, e6, l6⟩
    have k07 := ((k04.trans k5).step (s6.trans s7)).trans k7
    have ha7 := (ha5.same (s6.trans s7)).keptP (p6.same s7) k7 nap
    have T7 := Tabs.keptP hT hp k07
    refine ⟨L, _, _, _, rfl, rfl, .of hL7, hatb, ?_⟩
    -- the derivation
    refine ⟨_, rfl, _, rfl, a, b, ss, tt, rfl, ha7, hb, la, by omega, T7, fun ne => (ne he.symm).elim, fun _ H8 d es x8 T8 d0 hd pth ples => ?_⟩
    have p8 := p7.kept x8
    have ndp := p7.ne d0
    have ha8 := x8.seqAt ha7
    have hb8 := x8.seqAt hb
    have hd8 : SqL K H8 d (NI_ es) := .of hd
    have hd8' := hd8
    rw [nats_ints] at hd8'
    obtain ⟨us, g1, g2⟩ := id ha8
    have lus : (us.map V.ref).length = ss.length := by rw [List.length_map, g2.length]
    have les : (NI_ es).length = es.length := List.length_map _
    have mul : ((us.map V.ref).length : Int) * ((us.map V.ref).length : Int) = ((ss.length * ss.length : Nat) : Int) := by
      rw [lus]
      exact (Int.natCast_mul _ _).symm
    refine ⟨_, rfl, _, _, rfl, .lst hd8' (ints_dp _), _, rfl, ite_no (fun z => nomatch (show false = true from z)) ?_⟩
    refine ⟨_, rfl, d, _, rfl, .inl hd8, _, rfl, a, _, rfl, .inl g1, _, rfl, a, _, rfl, .inl g1, _, _, rfl, rfl, .inl ⟨by omega, by omega⟩, _, _, rfl, rfl, false, congrArg V.bl (decide_eq_false (by rw [mul]; omega)), iteF ?_⟩
    -- the places that are looked at
    refine ⟨12, rfl, by decide, by decide, fun Lk hLk => ?_⟩
    have nLkp := p8.ne hLk
    refine lc_range (fun i H' => Kept [p] H8 H' ∧ Pool K H' p sc ∧ ∃ ns : List Int, H' Lk = some (.lst (ns.map V.int)) ∧ ns.length = i)
      ⟨Same.kept (same_new hLk), p8.upd p8 (.refl _ _) hLk, [], upd_same, rfl⟩ ?_ ?_
    · rintro i H' hi ⟨kp, pl, ns, hN, hl⟩
      have hdk := SqL.keptP hd8 kp ndp
      have es1600 : es.length ≤ 1600 := Nat.le_trans ples (Nat.mul_le_mul la la)
      refine ⟨rfl, _, rfl, _, rfl, d, _, rfl, .inl hdk, _, _, rfl, rfl, p, sc, _, rfl, pl, by omega, by omega, fun H'' dd kk pp hdd => ⟨ns.map V.int, ?_, ?_, Kept.over (kp.trans kk) hLk, ?_, ns ++ [(dd : Int)], ?_, ?_⟩⟩
      · exact kk _ _ hN (fun z => nLkp (List.mem_singleton.mp z))
      · rw [List.length_map]
        have : i < 12 := hi
        exact lt1000 (by omega)
      · exact pp.upd p8 (kp.trans kk) hLk
      · rw [upd_same, List.map_append]
        rfl
      · rw [List.length_append]
        show ns.length + 1 = i + 1
        omega
    · rintro H9 ⟨k9, p9, ns9, hN9, _⟩
      have ha9 := ha8.keptP p8 k9 nap
      have hb9 : SeqAt K H9 b tt := by
        have nbp : b ≠ p := by
          have : b = q5 ∨ b = q6 := by
            have hj2 : j7 < 2 := by omega
            match j7, hj2, hatb with
            | 0, _, h => exact .inl (V.ref.inj (Option.some.inj h)).symm
            | 1, _, h => exact .inr (V.ref.inj (Option.some.inj h)).symm
          rcases this with z | z
          · rw [z]
            exact n5
          · rw [z]
            exact n6
        exact hb8.keptP p8 k9 nbp
      have hd9 := SqL.keptP hd8 k9 ndp
      have T9 := Tabs.keptP T8 p8 k9
      refine ⟨_, rfl, a, ss, rfl, ha9, la, fun v H10 s10 e10 => ?_⟩
      obtain ⟨b1, x, y, rfl, hb1, bx, by1⟩ := e10
      refine ⟨b1, _, 2, _, rfl, rfl, hb1, rfl, ?_⟩
      refine ⟨_, rfl, ?_⟩
      refine ⟨_, rfl, d, _, rfl, .inl (s10.seq hd9), _, rfl, by omega, by have es1600 : es.length ≤ 1600 := Nat.le_trans ples (Nat.mul_le_mul la la); omega, for_range (lo := 0) (n := (((NI_ es).length : Nat) : Int).toNat) (fun i σ H' => ∃ (dc : Addr) (o7 o8 : Option V) (cur : List Stp), σ = [some (.ref p), some (.ref a), some (.ref b), some (.ref d), some (.ref Lk), some y, some (.ref dc), o7, o8, none] ∧ Same H10 H' ∧ SeqAt K H' dc cur ∧ Path ss (es.take i) cur)
        ⟨a, none, none, ss, rfl, .refl _, ha9.same s10, rfl⟩ ?_ ?_⟩
      · rintro i σ H' hi ⟨dc, o7, o8, cur, rfl, smm, hcur, hpth⟩
        have hi' : i < es.length := by omega
        obtain ⟨kk, hk⟩ : ∃ kk, es[i]? = some kk := ⟨_, List.getElem?_eq_getElem hi'⟩
        have hkv : (NI_ es)[i]? = some (V.int (kk : Nat)) := by
          rw [List.getElem?_map, hk]
          rfl
        have ok := pth.at_ hk hpth
        have okl := ok.lt
        have lc := hpth.len
        obtain ⟨cs, q1', q2'⟩ := id hcur
        have lcs : (cs.map V.ref).length = cur.length := by rw [List.length_map, q2'.length]
        have sall := s10.trans smm
        have hdd := sall.seq hd9
        have ga := sall.seq (show SqL K H9 a (us.map V.ref) from SqL.keptP g1 k9 nap)
        refine ⟨_, rfl, _, rfl, d, _, _, _, rfl, rfl, hdd, atI_at (by omega) hkv, _, _, rfl, rfl, _, rfl, ite_yes (decide_eq_true (by omega)) ⟨_, rfl, a, _, rfl, .inl ga, _, _, rfl, rfl, _, _, rfl, rfl, _, rfl, iteNS (by omega) ?_⟩⟩
        refine ⟨_, rfl, _, rfl, _, rfl, d, _, _, _, rfl, rfl, hdd, atI_at (by omega) hkv, dc, _, kk, rfl, q1', by omega, by omega, fun p3' H3' s3' p0' hP' => ?_⟩
        have seq3 : SeqAt K H3' p3' (swp cur kk) := .swp okl (q2'.kept (TupK.of s3')) hP'
        have cur3 := hcur.same s3'
        have ne1 : PyData.eqv (seqD (swp cur kk)) (seqD cur) = false := by
          rw [eqv_dec eqv_seqD]
          exact decide_eq_false fun e => ok.ne ((swp_eq_iff okl).mp e)
        have pth' : Path ss (es.take (i + 1)) (swp cur kk) := by
          rw [take_snoc hk]
          exact hpth.append ⟨ok, rfl⟩
        refine ⟨_, rfl, _, rfl, _, _, seq3.dp, cur3.dp, plain_seqD _, plain_seqD _, Nat.le_trans (depth_seqD _) (by decide), false, by rw [ne1], iteF ?_⟩
        have hN' := (sall.trans s3') _ _ hN9
        refine ⟨_, rfl, _, rfl, Lk, _, rfl, .inl (.of hN'), rfl, flat_ints _, _, rfl, ?_⟩
        refine ite2 (fun _ => ?_) (fun _ => iteF ⟨_, rfl, p3', _, _, _, rfl, smm.trans s3', seq3, pth'⟩)
        refine ⟨_, rfl, p3', _, rfl, seq3, by rw [swp_len okl]; omega, fun v4 H4' s4' e4' => ?_⟩
        obtain ⟨b4, x4, y4, rfl, hb4, bx4, by4⟩ := e4'
        have by'' := by1.kept (TupK.of ((smm.trans s3').trans s4'))
        have hsv : surv (swp cur kk) = surv ss := ok.keep.trans hpth.surv
        have ne2 : PyData.eqv (bagD (bag (surv (swp cur kk)))) (bagD (bag (surv ss))) = true := by
          rw [hsv]
          exact (eqv_bagD _ _).mpr rfl
        refine ⟨b4, _, 2, _, rfl, rfl, hb4, rfl, _, rfl, _, _, by4.dp, by''.dp, plain_bagD _, plain_bagD _, Nat.le_trans (depth_bagD _) (by decide), false, ?_, iteF ?_⟩
        · show V.bl (!PyData.eqv (bagD (bag (surv (swp cur kk)))) (bagD (bag (surv ss)))) = _
          rw [ne2]
          rfl
        · exact ⟨_, rfl, p3', _, _, _, rfl, (smm.trans s3').trans s4', seq3.same s4', pth'⟩
      · rintro σ H' ⟨dc, o7, o8, cur, rfl, smm, hcur, hpth⟩
        rw [take_all (by omega)] at hpth
        have e := path_uniq hpth pth
        subst e
        refine ⟨_, rfl, _, rfl, _, _, hcur.dp, (hb9.same (s10.trans smm)).dp, plain_seqD _, plain_seqD _, Nat.le_trans (depth_seqD _) (by decide), ?_⟩
        rw [(eqv_seqD _ _).mpr rfl]
        exact k _ (p9.same (s10.trans smm)) (T9.ext (s10.trans smm))
end
end HX
set_option Elab.async false
set_option linter.all false
set_option maxRecDepth 100000
set_option maxHeartbeats 1000000
/-! The law. -/
namespace HX
open PySem PySem.Spec PyProof.Rows L2 LamX
theorem not_ne_self (x : V) : ¬ (!decide (x = x)) = true := by
  rw [decide_eq_true rfl]
  decide
theorem pair_dp {K : PySem.W.Frag} {H : Hp} {a b c : Addr} {ss tt : List Stp} (ha : SeqAt K H a ss) (hb : SeqAt K H b tt) (hc : SqL K H c [.ref a, .ref b]) : Dp K H (.ref c) (.list [seqD ss, seqD tt]) := .lst hc (.cons ha.dp (.cons hb.dp .nil))
section
variable {P : Program} {w : World} {K : PySem.W.Frag} {mg : Str → Option Value} {base : Heap}
theorem sc52 : FnScope ["_law_script", "_law_pool", "_law_steps_here", "_law_target_here", "_law_given", "_law_found"] ["_law_script"] (defScope (top 52)) := ⟨rfl, rfl, rfl, by decide +kernel, rfl, by decide +kernel, by decide +kernel⟩
theorem law_body {Tb : List (Addr × Str)} (T : Txt K mg) (CLo : Cal P w K mg base 7 "_law_long_right" (spLong K Tb)) (CD : Cal P w K mg base 1 "_law_draw" (spDraw K)) (CSt : Cal P w K mg base 3 "_law_steps" (spSteps K)) (CTg : Cal P w K mg base 4 "_law_target" (spTarget K))
    (CDer : Cal P w K mg base 6 "derivation" (spDer K Tb)) (CT : Cal P w K mg base 2 "_law_triple" (spTriple K)) (CCD : Cal P w K mg base 7 "check_derivation" (spCD K)) (CL : Cal P w K mg base 3 "_law_leads" (spLeads K))
    {f : Addr} {cdv : Value} {A : Around} {outer : List Env} {s : Shared} {H : Hp} {Q : VK} {E : XK} {a : Addr} {ns : List Int} (hgd : A.guards = some []) (hr : Room 7 (A.deeper (envOfC "law" (defScope (top 52)) s.heap.objs.size f cdv)))
    (hs : SqL K H a (ns.map V.int)) (hT : Tabs Tb H) (k : ∀ H', Q (.bl true) H') :
    ∃ t, PSs (cxOf CX0 P w K mg base ["_law_script", "_law_pool", "_law_steps_here", "_law_target_here", "_law_given", "_law_found"] "law" (defScope (top 52)) f cdv A outer s H E).nox (defBody (top 52)) t ∧ t { nx := fun _ H' => Q .non H', rt := Q } (start ["_law_script", "_law_pool", "_law_steps_here", "_law_target_here", "_law_given", "_law_found"] [.ref a]) H := by
  have hu := hr.units
  have hg : (A.deeper (envOfC "law" (defScope (top 52)) s.heap.objs.size f cdv)).guards = some [] := hgd
  refine ⟨_, pss_cons (ps_set (i := 1) sc52.nd rfl (.inl rfl) (pe_lst (pa_cons (pe_callTy call_list_of rfl T.list boot_list (pa_cons (pv 0) pa_nil)) (pa_cons pe_int (pa_cons pe_int (pa_cons pe_int pa_nil))))))
    (pss_cons (ps_if (pt_not (pt_val (pe_cl CLo hr (pa_cons (pv 1) pa_nil)))) pss_never pss_nil)
    (pss_cons (ps_set (i := 2) sc52.nd rfl (.inl rfl) (pe_cl CSt hr (pa_cons (pv 1) (pa_cons (pe_cl CD hr (pa_cons (pv 1) (pa_cons pe_int pa_nil))) (pa_cons (pe_op op_add pe_int (pe_cl CD hr (pa_cons (pv 1) (pa_cons pe_int pa_nil)))) pa_nil)))))
    (pss_cons (ps_set (i := 3) sc52.nd rfl (.inl rfl) (pe_cl CTg hr (pa_cons (pv 1) (pa_cons (pv 2) pa_nil))))
    (pss_cons (ps_set (i := 4) sc52.nd rfl (.inl rfl) (pe_callB (cr_repr hg hu) rfl T.repr boot_repr (pa_cons (pe_lst (pa_cons (pv 2) (pa_cons (pv 3) pa_nil))) pa_nil)))
    (pss_cons (ps_set (i := 5) sc52.nd rfl (.inl rfl) (pe_cl CDer hr (pa_cons (pv 2) (pa_cons (pv 3) pa_nil))))
    (pss_cons (ps_if (pt_cmpR op_ne (pe_callB (cr_repr hg hu) rfl T.repr boot_repr (pa_cons (pe_lst (pa_cons (pv 2) (pa_cons (pv 3) pa_nil))) pa_nil)) (pv 4) (nomark _)) pss_never pss_nil)
    (pss_cons (ps_if (pt_cmpR (op_neP hu) (pe_cl CT hr (pa_cons (pv 2) pa_nil)) (pe_cl CT hr (pa_cons (pv 3) pa_nil)) (nomark _))
      (pss_one (ps_ret (pe_and (pe_cmpR op_isN (pv 5) pe_non (nomark _)) (pe_one (pe_cmpR op_isBl (pe_cl CCD hr (pa_cons (pv 2) (pa_cons (pv 3) (pa_cons (pe_lst pa_nil) pa_nil)))) pe_bl (nomark _)))))) pss_nil)
    (pss_cons (ps_if (PW.pt (pw_or (pt_not (pt_val (pe_callB call_isi_list rfl T.isi boot_isinstance (pa_cons (pv 5) (pa_cons (pe_bltn (v := .ty "list") rfl T.list boot_list rfl) pa_nil)))))
      (pw_or1 (pt_cmpR op_gt (pe_callB cr_len rfl T.len PySem.boot_len (pa_cons (pv 5) pa_nil)) (pe_op op_mul (pe_callB cr_len rfl T.len PySem.boot_len (pa_cons (pv 2) pa_nil)) (pe_callB cr_len rfl T.len PySem.boot_len (pa_cons (pv 2) pa_nil))) (nomark _))))) pss_never pss_nil)
    (pss_one (ps_ret (pe_and (pe_cl CL hr (pa_cons (pv 2) (pa_cons (pv 3) (pa_cons (pv 5) pa_nil)))) (pe_one (pe_cmpR op_isBl (pe_cl CCD hr (pa_cons (pv 2) (pa_cons (pv 3) (pa_cons (pv 5) pa_nil)))) pe_bl (nomark _)))))))))))))), ?_⟩
  -- the pool
  refine ⟨_, rfl, a, _, rfl, .inl hs, fun sc hsc => ⟨(by show 4 ≤ sizeLine; decide), fun p hp0 => ?_⟩⟩
  have s1 := same_new (o := .lst (ns.map V.int)) hsc
  have s2 := same_new (o := .lst [.ref sc, .int 0, .int 0, .int 1]) hp0
  have nsp : sc ≠ p := ne_of_none upd_same hp0
  have T2 := (hT.ext s1).ext s2
  have hp : Pool K (upd (upd H sc (.lst (ns.map V.int))) p (.lst [.ref sc, .int 0, .int 0, .int 1])) p sc :=
    ⟨ns, 0, 0, 1, upd_same, by decide, by decide, by decide, by decide, .of (s2 _ _ upd_same), nsp⟩
  -- the long part
  refine ⟨_, rfl, p, sc, rfl, hp, T2, fun H1 p1 T1 => ⟨_, rfl, ite_no (fun z => nomatch (show false = true from z)) ?_⟩⟩
  refine ⟨_, rfl, _, rfl, p, sc, 17, rfl, p1, by decide, by decide, fun H2 c k2 p2 hc => ?_⟩
  refine ⟨_, rfl, p, sc, 4, rfl, p2, by decide, by decide, fun H3 d3 k3 p3 hd3 => ⟨_, _, rfl, rfl, ?_⟩⟩
  refine ⟨p, sc, c, 1 + (d3 : Nat), rfl, p3, by omega, by omega, by omega, fun H4 q ss k4 p4 q0 hq hlen sm => ?_⟩
  have la : ss.length ≤ 40 := by omega
  have nqp := p3.ne q0
  refine ⟨_, rfl, _, rfl, p, sc, q, ss, rfl, p4, hq, la, nqp, sm, fun H5 b tt k5 p5 b0 hb htl smt => ?_⟩
  have hq5 := hq.keptP p4 k5 nqp
  have T5 := Tabs.keptP (Tabs.keptP T1 p1 ((k2.trans k3).trans k4)) p4 k5
  have lb : tt.length ≤ 40 := by omega
  -- the text
  refine ⟨_, rfl, _, rfl, (by show 2 ≤ sizeLine; decide), fun m hm => ?_⟩
  have sm1 := same_new (o := .lst [.ref q, .ref b]) hm
  refine ⟨m, _, rfl, pair_dp (hq5.same sm1) (hb.same sm1) (.of upd_same), pair_showable sm smt, pair_nodict ss tt, pair_depth ss tt, pair_shown sm smt la lb, ?_⟩
  refine ⟨_, rfl, _, rfl, q, b, ss, tt, rfl, hq5.same sm1, hb.same sm1, la, lb, T5.ext sm1, fun ne H6 x6 T6 => ?_, fun he H6 d es x6 T6 d0 hd pth ples => ?_⟩
  · -- the effects differ
    have hq6 := x6.seqAt (hq5.same sm1)
    have hb6 := x6.seqAt (hb.same sm1)
    refine ⟨_, rfl, _, rfl, (by show 2 ≤ sizeLine; decide), fun m2 hm2 => ?_⟩
    have sm2 := same_new (o := .lst [.ref q, .ref b]) hm2
    refine ⟨m2, _, rfl, pair_dp (hq6.same sm2) (hb6.same sm2) (.of upd_same), pair_showable sm smt, pair_nodict ss tt, pair_depth ss tt, pair_shown sm smt la lb, _, rfl, rfl, _, rfl, ite_no (not_ne_self _) ?_⟩
    refine ⟨_, rfl, q, ss, rfl, hq6.same sm2, la, fun v7 H7 s7 e7 => ⟨_, rfl, b, tt, rfl, (hb6.same sm2).same s7, lb, fun v8 H8 s8 e8 => ?_⟩⟩
    refine ⟨_, _, (e7.kept (TupK.of s8)).dp, e8.dp, plain_effD _, plain_effD _, Nat.le_trans (depth_effD _) (by decide), _, rfl, ?_⟩
    rw [eqv_dec eqv_effD, decide_eq_false ne]
    have nst : ss ≠ tt := fun z => ne (by rw [z])
    refine iteT ⟨_, rfl, rfl, _, rfl, ite_yes (decide_eq_true rfl) ?_⟩
    refine ⟨_, rfl, _, rfl, Nat.zero_le _, fun c9 hc9 => ?_⟩
    have s9 := same_new (o := .lst []) hc9
    have s69 := ((sm2.trans s7).trans s8).trans s9
    refine ⟨q, b, c9, ss, tt, ss, [], rfl, hq6.same s69, hb6.same s69, .of upd_same, rfl, la, lb, fun H10 s10 => ⟨_, _, rfl, rfl, ?_⟩⟩
    rw [decide_eq_false nst]
    exact k _
  · -- they agree
    have hq6 := x6.seqAt (hq5.same sm1)
    have hb6 := x6.seqAt (hb.same sm1)
    refine ⟨_, rfl, _, rfl, (by show 2 ≤ sizeLine; decide), fun m2 hm2 => ?_⟩
    have sm2 := same_new (o := .lst [.ref q, .ref b]) hm2
    refine ⟨m2, _, rfl, pair_dp (hq6.same sm2) (hb6.same sm2) (.of upd_same), pair_showable sm smt, pair_nodict ss tt, pair_depth ss tt, pair_shown sm smt la lb, _, rfl, rfl, _, rfl, ite_no (not_ne_self _) ?_⟩
    refine ⟨_, rfl, q, ss, rfl, hq6.same sm2, la, fun v7 H7 s7 e7 => ⟨_, rfl, b, tt, rfl, (hb6.same sm2).same s7, lb, fun v8 H8 s8 e8 => ?_⟩⟩
    refine ⟨_, _, (e7.kept (TupK.of s8)).dp, e8.dp, plain_effD _, plain_effD _, Nat.le_trans (depth_effD _) (by decide), _, rfl, ?_⟩
    rw [eqv_dec eqv_effD, decide_eq_true he]
    have s68 := (sm2.trans s7).trans s8
    have hd8 : SqL K H8 d (NI_ es) := s68.seq (.of hd)
    have hd8' := hd8
    rw [nats_ints] at hd8'
    have hq8 := hq6.same s68
    have hb8 := hb6.same s68
    obtain ⟨us, g1, g2⟩ := id hq8
    have lus : (us.map V.ref).length = ss.length := by rw [List.length_map, g2.length]
    have les : (NI_ es).length = es.length := List.length_map _
    have mul : ((us.map V.ref).length : Int) * ((us.map V.ref).length : Int) = ((ss.length * ss.length : Nat) : Int) := by
      rw [lus]
      exact (Int.natCast_mul _ _).symm
    refine iteF ⟨_, rfl, _, _, rfl, .lst hd8' (ints_dp _), _, rfl, ite_no (fun z => nomatch (show false = true from z)) ?_⟩
    refine ⟨_, rfl, d, _, rfl, .inl hd8, _, rfl, q, _, rfl, .inl g1, _, rfl, q, _, rfl, .inl g1, _, _, rfl, rfl, .inl ⟨by omega, by omega⟩, _, _, rfl, rfl, false, congrArg V.bl (decide_eq_false (by rw [mul]; omega)), iteF ?_⟩
    refine ⟨_, rfl, _, rfl, _, rfl, q, b, d, ss, tt, es, rfl, hq8, hb8, hd8, pth, la, fun H9 s9 => ⟨_, rfl, iteT ?_⟩⟩
    refine ⟨_, rfl, _, rfl, _, rfl, q, b, d, ss, tt, tt, es, rfl, hq8.same s9, hb8.same s9, s9.seq hd8, pth, la, lb, fun H10 s10 => ⟨_, _, rfl, rfl, ?_⟩⟩
    rw [decide_eq_true rfl]
    exact k _
end
end HX
set_option Elab.async false
set_option linter.all false
set_option maxRecDepth 100000
set_option maxHeartbeats 1000000
/-! From the law's def to the row. -/
namespace HX
open PySem PySem.Spec PyProof.Rows L2 LamX
/-- the law's def answers true at every script, from a heap whose one table at Pt is empty -/
def Answers (P : Program) (w : World) (K : PySem.W.Frag) (mg : Str → Option Value) (fa c Pt : Addr) : Prop :=
  ∀ base : Heap, K.In base → base.Ns mainGlobals mg → TabB base mg c Pt → ∀ (s : Shared) (H : Hp) (a : Addr) (ns : List Int), Env0 P w K mg base callerA [] s H → SqL K H a (ns.map V.int) → H Pt = some (.tbl #[]) →
    codeAny (model P w) callerA (.call (.ref fa) ⟨[.ref a], []⟩) (CR CX0 [] P w H s (fun v _ => v = .bl true) E0) s
/-- what is tracked at the entry: the table, and the script if it is none of the written things -/
def atEntry (K : PySem.W.Frag) (Pt a : Addr) (o : Obj) (ns : List Int) : Hp := fun b => if b = Pt then some (.tbl #[]) else if b = a ∧ K.lookup a = none then some (.frz o (.lst (ns.map V.int))) else none
section
variable {P : Program} {w : World} {K : PySem.W.Frag} {mg mb : Str → Option Value} {fa c Pt a : Addr} {s : Shared} {vs : List Value} {ns : List Int}
theorem entry_tab {o : Obj} : atEntry K Pt a o ns Pt = some (.tbl #[]) := if_pos rfl
/-- nothing but a table or a list stands where it tracks -/
theorem entry_off {o o' : Obj} {b : Addr} (hP : s.heap.get? Pt = some { cls := .none, data := .fields #[] }) (ha : s.heap.get? a = some o) (ho : ∃ xs n, o.data = .seq xs n) (e : s.heap.get? b = some o') (h1 : ∀ xs n, o'.data ≠ .seq xs n) (h2 : o'.data ≠ .fields #[]) : atEntry K Pt a o ns b = none := by
  unfold atEntry
  have n1 : b ≠ Pt := fun z => by
    rw [z, hP] at e
    cases e
    exact h2 rfl
  have n2 : b ≠ a := fun z => by
    rw [z, ha] at e
    cases e
    obtain ⟨xs, n, q⟩ := ho
    exact h1 xs n q
  rw [if_neg n1, if_neg fun z => n2 z.1]
theorem entry_run (A : Answers P w K mg fa c Pt) (KX : K.In s.heap) (hns : s.heap.Ns mainGlobals mg) (hb : s.heap.Ns builtinsNs mb) (hbb : ∀ x : Str, x ≠ "__name__" → mb x = bootBuiltins x) (hlim : s.heap.NoLimit) (hg : s.gens = #[])
    (hP : s.heap.get? Pt = some { cls := .none, data := .fields #[] }) (nP : K.lookup Pt = none) (C : PySem.W.CodeHd s.heap c Pt)
    (hbm : ∃ (bm : Addr) (ob : Obj), mg "__builtins__" = some (.ref bm) ∧ bm ≠ builtinsNs ∧ s.heap.get? bm = some ob ∧ ob.cls = .type "module" ∧ ob.dict = some builtinsNs ∧ ob.data = .plain)
    (ha : s.heap.get? a = some { cls := .type "list", data := .seq vs.toArray }) (hi : IntsAre vs ns) (hl : ns.length ≤ sizeLine) :
    codeAny (model P w) callerA (.call (.ref fa) ⟨[.ref a], []⟩) (fun r s' => r = .ok (.ret (.bool true)) ∧ OldK s.heap s'.heap ∧ s'.os = s.os ∧ AllBare s'.gens) s := by
  have rv := vals_ints hi
  have aP : a ≠ Pt := fun z => by
    rw [z, hP] at ha
    cases ha
  obtain ⟨H, eH⟩ : ∃ H, H = atEntry K Pt a { cls := .type "list", data := .seq vs.toArray } ns := ⟨_, rfl⟩
  have HP : H Pt = some (.tbl #[]) := by rw [eH]; exact entry_tab
  have off : ∀ {b : Addr} {o' : Obj}, s.heap.get? b = some o' → (∀ xs n, o'.data ≠ .seq xs n) → o'.data ≠ .fields #[] → H b = none := fun e h1 h2 => by
    rw [eH]
    exact entry_off hP ha ⟨_, _, rfl⟩ e h1 h2
  have offD : ∀ {b : Addr} {o' : Obj} {es : Array DictEntry} {ep : Nat}, s.heap.get? b = some o' → o'.data = .dict es ep → H b = none := fun e d => off e (fun xs n z => by rw [d] at z; cases z) fun z => by rw [d] at z; cases z
  have two : ∀ b, H b = none ∨ b = Pt ∨ (b = a ∧ K.lookup a = none) := fun b => by
    rw [eH]
    unfold atEntry
    by_cases h1 : b = Pt
    · exact .inr (.inl h1)
    · by_cases h2 : b = a ∧ K.lookup a = none
      · exact .inr (.inr h2)
      · rw [if_neg h1, if_neg h2]
        exact .inl rfl
  have HA : K.lookup a = none → H a = some (.frz { cls := .type "list", data := .seq vs.toArray } (.lst (ns.map V.int))) := fun z => by
    rw [eH]
    unfold atEntry
    rw [if_neg aP, if_pos ⟨rfl, z⟩]
  clear eH
  have okA : ObjOk P w H s.heap a (.frz { cls := .type "list", data := .seq vs.toArray } (.lst (ns.map V.int))) := ⟨ha, by rw [List.length_map]; exact hl, vs, _, rv, ha⟩
  have hok : HOk P w H s.heap := fun b u e => by
    rcases two b with z | z | ⟨z, zk⟩
    · rw [z] at e
      cases e
    · rw [z, HP] at e
      cases e
      rw [z]
      exact hP
    · rw [z, HA zk] at e
      cases e
      rw [z]
      exact okA
  have hS : SqL K H a (ns.map V.int) := by
    cases hk : K.lookup a with
    | none => exact .inl (.inr ⟨_, HA hk⟩)
    | some o =>
      have e := KX a o hk
      rw [ha] at e
      cases e
      exact .inr ⟨_, vs.toArray, _, hk, rfl, rfl, rfl, by rw [List.size_toArray, hi.length]; exact hl, by simpa using rv⟩
  -- the base: all that is not tracked
  have up : ∀ {b : Addr} {o : Obj}, s.heap.get? b = some o → H b = none → (hidT s.heap H).get? b = some o := fun e n => hidT_get e n
  have nsB : ∀ {b : Addr} {m : Str → Option Value}, s.heap.Ns b m → (hidT s.heap H).Ns b m := fun ⟨o, es, ep, e, d, r⟩ => ⟨o, es, ep, up e (offD e d), d, r⟩
  have kB : K.In (hidT s.heap H) := fun b o e => up (KX b o e) (by
    rcases two b with z | z | ⟨z, zk⟩
    · exact z
    · rw [z, nP] at e
      cases e
    · rw [z, zk] at e
      cases e)
  have M : L2.Mod K mg (hidT s.heap H) := ⟨kB, nsB hns, ⟨mb, nsB hb, hbb⟩, by
    obtain ⟨mc, h1, h2⟩ := hlim
    exact ⟨mc, nsB h1, h2⟩⟩
  have gP : mainGlobals ≠ Pt := fun z => by
    obtain ⟨o, es, ep, e, hd, _⟩ := hns
    rw [z, hP] at e
    cases e
    cases hd
  have TB : TabB (hidT s.heap H) mg c Pt := by
    refine ⟨?_, ?_, gP⟩
    · obtain ⟨o, us, file, tf, flags, tg, inF, text, tt, e1, r1, r2, r3, r⟩ := C
      refine ⟨o, us, file, tf, flags, tg, inF, text, tt, up e1 (off e1 (fun xs n z => ?_) fun z => ?_), r1, r2, r3, r⟩
      · rw [r2] at z
        cases z
      · rw [r2] at z
        cases z
        simp at r3
    · obtain ⟨bm, ob, b1, b2, b3, b4, b5, b6⟩ := hbm
      refine ⟨bm, ob, b1, b2, fun z => ?_, fun z => ?_, up b3 (off b3 (fun xs n z => ?_) fun z => ?_), b4, b5, b6⟩
      · obtain ⟨o, es, ep, e, hd, _⟩ := hns
        rw [z, e] at b3
        cases b3
        rw [hd] at b6
        cases b6
      · rw [z, hP] at b3
        cases b3
        cases b6
      · rw [b6] at z
        cases z
      · rw [b6] at z
        cases z
  have e0 : Env0 P w K mg (hidT s.heap H) callerA [] s H := ⟨rfl, M, fun b o e => of_hidT e, Nat.le_of_eq (hidT_size _ _), trivial, fun b hb => absurd (show b ∈ ([] : List Addr) from hb) (by simp), hok, .of_eq hg⟩
  refine codeAny_mono (A _ kB (nsB hns) TB s H a ns e0 hS HP) fun r s' h => ?_
  cases r with
  | error e => exact False.elim h
  | ok fl =>
    cases fl with
    | next => exact False.elim h
    | brk => exact False.elim h
    | cont => exact False.elim h
    | ret u =>
      obtain ⟨v, H', os, bare, un, hok', r', q⟩ := h
      have q' : v = .bl true := q
      subst q'
      obtain rfl : u = Value.bool true := r'
      have stay : ∀ b o, b ≠ Pt → s.heap.get? b = some o → s'.heap.get? b = some o := fun b o nb e => by
        rcases two b with z | z | ⟨z, zk⟩
        · exact un.keep b o e z (fun z => absurd (show b ∈ ([] : List Addr) from z) (by simp)) (by simp)
        · exact absurd z nb
        · rw [z] at e ⊢
          rw [ha] at e
          cases e
          exact (hok' a _ (un.frzs a _ _ (HA zk))).1
      obtain ⟨more, zt⟩ := un.tbls Pt #[] HP
      have hm : s'.heap.get? Pt = some { cls := .none, data := .fields (#[] ++ more) } := hok' Pt _ zt
      rw [Array.empty_append] at hm
      refine ⟨rfl, ⟨fun b o e => ?_, fun b o e => ?_⟩, os, bare⟩
      · by_cases z : b = Pt
        · rw [z] at e ⊢
          rw [hP] at e
          cases e
          exact .inr (.inl ⟨(C.tab hP).isCodeTable, rfl, #[], more, rfl, by rw [Array.empty_append]; exact hm⟩)
        · exact .inl (stay b o z e)
      · by_cases z : b = Pt
        · rw [z]
          exact ⟨_, hm⟩
        · exact ⟨o, stay b o z e⟩
end
/-- the row -/
theorem walk_mine {l : PySem.W.OpenLaw} {q : Program} {loose : List Str} {XP : (Str → Option Value) → Heap → Prop} {YP : World → Heap → Prop} {d : DefRec} (hn : l.most = some 63) (hdf : d.params.defaults = [])
    (F : ∀ (w : World) (mg : Str → Option Value) (fa : Addr) (h : Heap), YP w h → h.Ns mainGlobals mg → mg d.name = some (.ref fa) →
      ∃ (K : PySem.W.Frag) (c Pt : Addr), K.In h ∧ h.get? Pt = some { cls := .none, data := .fields #[] } ∧ K.lookup Pt = none ∧ PySem.W.CodeHd h c Pt ∧ Answers l.prog w K mg fa c Pt) :
    PySem.W.WalkO q loose XP YP l.row.toRowW d [] (fun f vs => PySem.call f vs) := by
  refine Att.attach_callB hn hdf fun w s₀ s₁ mg mb fa o pm cd doc a vs ns G Y ho hd hcd hmg hobj hints hlen hbits hg => ?_
  obtain ⟨K, c, Pt, KX, hP, nP, C, A⟩ := F w mg fa _ Y G.T.g hmg
  exact entry_run A KX G.T.g G.T.b G.T.builtins G.T.nolimit hg hP nP C G.T.bmain hobj hints (Nat.le_trans hlen (by rw [sizeLine_eq]; decide))
end HX
set_option Elab.async false
set_option linter.all false
set_option maxRecDepth 100000
set_option maxHeartbeats 1000000
/-! All defs together. -/
namespace HX
open PySem PySem.Spec PyProof.Rows L2 LamX
/-- a def as the written part tells it -/
structure DefK (K : PySem.W.Frag) (x : Str) (st : Stmt) : Prop where
  ex : ∃ (f : Addr) (oc : Value) (od : Option Addr) (kV doc pm : Value) (an : Option Addr) (cd ct : Value) (osl : Array (Option Value)), PySem.W.nsIn K mainGlobals x = some (some (.ref f)) ∧
    K.lookup f = some ⟨oc, od, .func (PySem.W.fnOf x x (defArgs st) (defBody st) (defScope st) .none kV doc pm an cd ct), osl⟩ ∧ PySem.W.codeIn K cd x = true ∧ PySem.W.keepIn K (.ref f) = true
theorem defK_mk {K : PySem.W.Frag} {x : Str} {st : Stmt} {f : Addr} {oc : Value} {od : Option Addr} {kV doc pm : Value} {an : Option Addr} {cd ct : Value} {osl : Array (Option Value)} (a : PySem.W.nsIn K mainGlobals x = some (some (.ref f)))
    (l : K.lookup f = some ⟨oc, od, .func (PySem.W.fnOf x x (defArgs st) (defBody st) (defScope st) .none kV doc pm an cd ct), osl⟩) (c : PySem.W.codeIn K cd x = true) (k : PySem.W.keepIn K (.ref f) = true) : DefK K x st := ⟨_, _, _, _, _, _, _, _, _, _, a, l, c, k⟩
theorem DefK.def {K : PySem.W.Frag} {h : Heap} {mg : Str → Option Value} {x : Str} {st : Stmt} {ps : List Str} (D : DefK K x st) (X : K.In h) (G : h.Ns mainGlobals mg)
    (hb : ∀ (kV doc pm : Value) (an : Option Addr) (cdv ct : Value) (us : List Value), us.length = ps.length → bindArgs (PySem.W.fnOf x x (defArgs st) (defBody st) (defScope st) .none kV doc pm an cdv ct) ⟨us, []⟩ = pure (ps.zip us)) : Def K mg x st ps := by
  obtain ⟨f, oc, od, kV, doc, pm, an, cd, ct, osl, a, l, c, k⟩ := D.ex
  have F := fun_mk (st := st) l c k
  exact ⟨f, _, F, PySem.W.mg_of X G a, F.binds hb⟩
/-- the def whose code object stands at c -/
structure DefCK (K : PySem.W.Frag) (x : Str) (st : Stmt) (c : Addr) : Prop where
  ex : ∃ (f : Addr) (oc : Value) (od : Option Addr) (kV doc pm : Value) (an : Option Addr) (ct : Value) (osl : Array (Option Value)), PySem.W.nsIn K mainGlobals x = some (some (.ref f)) ∧
    K.lookup f = some ⟨oc, od, .func (PySem.W.fnOf x x (defArgs st) (defBody st) (defScope st) .none kV doc pm an (.ref c) ct), osl⟩ ∧ PySem.W.codeIn K (.ref c) x = true ∧ PySem.W.keepIn K (.ref f) = true
theorem defCK_mk {K : PySem.W.Frag} {x : Str} {st : Stmt} {f c : Addr} {oc : Value} {od : Option Addr} {kV doc pm : Value} {an : Option Addr} {ct : Value} {osl : Array (Option Value)} (a : PySem.W.nsIn K mainGlobals x = some (some (.ref f)))
    (l : K.lookup f = some ⟨oc, od, .func (PySem.W.fnOf x x (defArgs st) (defBody st) (defScope st) .none kV doc pm an (.ref c) ct), osl⟩) (hc : PySem.W.codeIn K (.ref c) x = true) (k : PySem.W.keepIn K (.ref f) = true) : DefCK K x st c := ⟨_, _, _, _, _, _, _, _, _, a, l, hc, k⟩
theorem DefCK.def {K : PySem.W.Frag} {h : Heap} {mg : Str → Option Value} {x : Str} {st : Stmt} {ps : List Str} {c : Addr} (D : DefCK K x st c) (X : K.In h) (G : h.Ns mainGlobals mg)
    (hb : ∀ (kV doc pm : Value) (an : Option Addr) (cdv ct : Value) (us : List Value), us.length = ps.length → bindArgs (PySem.W.fnOf x x (defArgs st) (defBody st) (defScope st) .none kV doc pm an cdv ct) ⟨us, []⟩ = pure (ps.zip us)) : DefC K mg x st ps c := by
  obtain ⟨f, oc, od, kV, doc, pm, an, ct, osl, a, l, hc, k⟩ := D.ex
  exact ⟨f, oc, od, kV, doc, pm, an, ct, osl, l, hc, k, PySem.W.mg_of X G a, .all (hb kV doc pm an (.ref c) ct)⟩
/-- the class -/
structure ClsK (K : PySem.W.Frag) (C : Addr) : Prop where
  aC : PySem.W.nsIn K mainGlobals "Normalizer" = some (some (.ref C))
  pg : PySem.W.plainGet K C Str.empty = true
  hd : PySem.W.hasDictIn K C = true
  po : PySem.W.plainOver K C = true
  sa : PySem.W.findIn K (.ref C) "__setattr__" = some (some (.builtin "object.__setattr__"))
  mkr : PySem.W.makesIn K C = true
  kc : PySem.W.keepIn K (.ref C) = true
  nR : PySem.W.findIn K (.ref C) "rows" = some none
  nE : PySem.W.findIn K (.ref C) "exchanges" = some none
/-- a method of it -/
structure MethK (K : PySem.W.Frag) (C : Addr) (m qual : Str) (st : Stmt) : Prop where
  ex : ∃ (f : Addr) (oc : Value) (od : Option Addr) (kV doc pm : Value) (an : Option Addr) (cd ct : Value) (osl : Array (Option Value)), PySem.W.findIn K (.ref C) m = some (some (.ref f)) ∧ PySem.W.isFn K (.ref f) = true ∧
    K.lookup f = some ⟨oc, od, .func (PySem.W.fnOf m qual (defArgs st) (defBody st) (defScope st) .none kV doc pm an cd ct), osl⟩ ∧ PySem.W.codeIn K cd qual = true ∧ PySem.W.keepIn K (.ref f) = true
theorem methK_mk {K : PySem.W.Frag} {C : Addr} {m qual : Str} {st : Stmt} {f : Addr} {oc : Value} {od : Option Addr} {kV doc pm : Value} {an : Option Addr} {cd ct : Value} {osl : Array (Option Value)} (a : PySem.W.findIn K (.ref C) m = some (some (.ref f))) (i : PySem.W.isFn K (.ref f) = true)
    (l : K.lookup f = some ⟨oc, od, .func (PySem.W.fnOf m qual (defArgs st) (defBody st) (defScope st) .none kV doc pm an cd ct), osl⟩) (c : PySem.W.codeIn K cd qual = true) (k : PySem.W.keepIn K (.ref f) = true) : MethK K C m qual st := ⟨_, _, _, _, _, _, _, _, _, _, a, i, l, c, k⟩
/-- the constants -/
structure ConK (K : PySem.W.Frag) : Prop where
  ms : ∃ t, PySem.W.nsIn K mainGlobals "MAX_STEPS" = some (some (.int 40 t))
  co : ∃ t, PySem.W.nsIn K mainGlobals "CONSUMED" = some (some (.int 0 t))
  re : ∃ t, PySem.W.nsIn K mainGlobals "REMOVING" = some (some (.int 1 t))
  su : ∃ t, PySem.W.nsIn K mainGlobals "SURVIVING" = some (some (.int 2 t))
  rm : ∃ (r : Addr) (t1 t2 : Tok) (n : Nat) (sl : Array (Option Value)), PySem.W.nsIn K mainGlobals "REMOVAL" = some (some (.ref r)) ∧ K.lookup r = some ⟨.type "tuple", none, .seq #[.str "remove" t1, .int 1 t2] n, sl⟩
  idn : ∃ (r a b : Addr) (t : Tok) (n n1 n2 : Nat) (sl sl1 sl2 : Array (Option Value)), PySem.W.nsIn K mainGlobals "IDENTITY" = some (some (.ref r)) ∧ K.lookup r = some ⟨.type "tuple", none, .seq #[.ref a, .int 0 t, .ref b] n, sl⟩ ∧
    K.lookup a = some ⟨.type "tuple", none, .seq #[] n1, sl1⟩ ∧ K.lookup b = some ⟨.type "tuple", none, .seq #[] n2, sl2⟩
theorem conK_mk {K : PySem.W.Frag} {t1 t2 t3 t4 u1 u2 u3 : Tok} {r r2 a b : Addr} {n n0 n1 n2 : Nat} {sl sl0 sl1 sl2 : Array (Option Value)} (q1 : PySem.W.nsIn K mainGlobals "MAX_STEPS" = some (some (.int 40 t1))) (q2 : PySem.W.nsIn K mainGlobals "CONSUMED" = some (some (.int 0 t2)))
    (q3 : PySem.W.nsIn K mainGlobals "REMOVING" = some (some (.int 1 t3))) (q4 : PySem.W.nsIn K mainGlobals "SURVIVING" = some (some (.int 2 t4))) (q5 : PySem.W.nsIn K mainGlobals "REMOVAL" = some (some (.ref r))) (q6 : K.lookup r = some ⟨.type "tuple", none, .seq #[.str "remove" u1, .int 1 u2] n, sl⟩)
    (q7 : PySem.W.nsIn K mainGlobals "IDENTITY" = some (some (.ref r2))) (q8 : K.lookup r2 = some ⟨.type "tuple", none, .seq #[.ref a, .int 0 u3, .ref b] n0, sl0⟩) (q9 : K.lookup a = some ⟨.type "tuple", none, .seq #[] n1, sl1⟩) (q10 : K.lookup b = some ⟨.type "tuple", none, .seq #[] n2, sl2⟩) : ConK K :=
  ⟨⟨_, q1⟩, ⟨_, q2⟩, ⟨_, q3⟩, ⟨_, q4⟩, ⟨_, _, _, _, _, q5, q6⟩, ⟨_, _, _, _, _, _, _, _, _, _, q7, q8, q9, q10⟩⟩
/-- names of the top that stay those of the builtins -/
def FreeK (K : PySem.W.Frag) (x : Str) : Prop := PySem.W.nsIn K mainGlobals x = some none
theorem txt_of {K : PySem.W.Frag} {h : Heap} {mg : Str → Option Value} (X : K.In h) (G : h.Ns mainGlobals mg) (C : ConK K) (z1 : FreeK K "len") (z2 : FreeK K "min") (z3 : FreeK K "sorted") (z4 : FreeK K "tuple") (z5 : FreeK K "list") (z6 : FreeK K "dict") (z7 : FreeK K "set") (z8 : FreeK K "any")
    (z9 : FreeK K "isinstance") (z10 : FreeK K "range") (z11 : FreeK K "enumerate") (z12 : FreeK K "zip") (z13 : FreeK K "repr") (z14 : FreeK K "int") (z15 : FreeK K "bool") : Txt K mg where
  len := PySem.W.mg_none_of X G z1
  min := PySem.W.mg_none_of X G z2
  sorted := PySem.W.mg_none_of X G z3
  tuple := PySem.W.mg_none_of X G z4
  list := PySem.W.mg_none_of X G z5
  dict := PySem.W.mg_none_of X G z6
  set := PySem.W.mg_none_of X G z7
  any := PySem.W.mg_none_of X G z8
  isi := PySem.W.mg_none_of X G z9
  range := PySem.W.mg_none_of X G z10
  enum := PySem.W.mg_none_of X G z11
  zip := PySem.W.mg_none_of X G z12
  repr := PySem.W.mg_none_of X G z13
  int := PySem.W.mg_none_of X G z14
  bool := PySem.W.mg_none_of X G z15
  ms := C.ms.imp fun _ q => PySem.W.mg_of X G q
  co := C.co.imp fun _ q => PySem.W.mg_of X G q
  re := C.re.imp fun _ q => PySem.W.mg_of X G q
  su := C.su.imp fun _ q => PySem.W.mg_of X G q
  rm := by
    obtain ⟨r, t1, t2, n, sl, h1, h2⟩ := C.rm
    exact ⟨r, PySem.W.mg_of X G h1, fun H => .inr ⟨_, _, n, h2, rfl, rfl, rfl, (by show 2 ≤ sizeLine; decide), .cons ⟨_, rfl⟩ (.cons ⟨_, rfl⟩ .nil)⟩⟩
  idn := by
    obtain ⟨r, a, b, t, n, n1, n2, sl, sl1, sl2, h1, h2, h3, h4⟩ := C.idn
    exact ⟨r, a, b, PySem.W.mg_of X G h1, fun H => ⟨.inr ⟨_, _, n, h2, rfl, rfl, rfl, (by show 3 ≤ sizeLine; decide), .cons rfl (.cons ⟨_, rfl⟩ (.cons rfl .nil))⟩, .inr ⟨_, _, n1, h3, rfl, rfl, rfl, Nat.zero_le _, .nil⟩, .inr ⟨_, _, n2, h4, rfl, rfl, rfl, Nat.zero_le _, .nil⟩⟩⟩
/-- all of it -/
structure AllK (K : PySem.W.Frag) (C c : Addr) : Prop where
  con : ConK K
  d4 : DefK K "is_integer" (top 4)
  d5 : DefK K "is_count" (top 5)
  d6 : DefK K "from_counts" (top 6)
  d7 : DefK K "add" (top 7)
  d8 : DefK K "subtract" (top 8)
  d9 : DefK K "scale" (top 9)
  d10 : DefK K "drop" (top 10)
  d13 : DefK K "is_step" (top 13)
  d16 : DefK K "join_parts" (top 16)
  d18 : DefK K "step_parts" (top 18)
  d19 : DefK K "program_parts" (top 19)
  d23 : DefK K "is_elementary" (top 23)
  d24 : DefK K "check_sequence" (top 24)
  d25 : DefK K "parts_of" (top 25)
  d30 : DefK K "exchanged" (top 30)
  d31 : DefK K "is_allowed" (top 31)
  d32 : DefK K "roles" (top 32)
  d33 : DefK K "sort_key" (top 33)
  cl : ClsK K C
  mi : MethK K C "__init__" "Normalizer.__init__" sInit
  ms : MethK K C "sort_by" "Normalizer.sort_by" sSort
  d35 : DefCK K "normalizing_exchanges" (top 35) c
  d36 : DefK K "derivation" (top 36)
  d37 : DefK K "check_derivation" (top 37)
  d39 : DefK K "_law_draw" (top 39)
  d40 : DefK K "_law_base" (top 40)
  d41 : DefK K "_law_steps" (top 41)
  d42 : DefK K "_law_bag" (top 42)
  d43 : DefK K "_law_triple" (top 43)
  d44 : DefK K "_law_list" (top 44)
  d45 : DefK K "_law_shuffled" (top 45)
  d46 : DefK K "_law_swapped" (top 46)
  d47 : DefK K "_law_wandered" (top 47)
  d48 : DefK K "_law_normal" (top 48)
  d49 : DefK K "_law_target" (top 49)
  d50 : DefK K "_law_leads" (top 50)
  d51 : DefK K "_law_long_right" (top 51)
  d52 : DefK K "law" (top 52)
theorem answers {P : Program} {w : World} {K : PySem.W.Frag} {h : Heap} {mg : Str → Option Value} {fa C c Pt : Addr} (X : K.In h) (G : h.Ns mainGlobals mg) (hfa : mg "law" = some (.ref fa)) (B : AllK K C c) (T : Txt K mg) : Answers P w K mg fa c Pt := by
  intro base kB nsB TB s H a ns e0 hS hP
  have N : Nz K mg C := ⟨⟨B.cl.pg, B.cl.hd, B.cl.po, B.cl.sa⟩, B.cl.nR, B.cl.nE, PySem.W.mg_of X G B.cl.aC⟩
  have NF : NzF K C := by
    obtain ⟨fI, oc, od, kV, doc, pm, an, cd, ct, osl, a1, i1, l1, c1, k1⟩ := B.mi.ex
    obtain ⟨fS, oc2, od2, kV2, doc2, pm2, an2, cd2, ct2, osl2, a2, i2, l2, c2, k2⟩ := B.ms.ex
    have F1 := fun_mk (st := sInit) l1 c1 k1
    have F2 := fun_mk (st := sSort) l2 c2 k2
    exact ⟨fI, fS, _, _, F1, F1.binds (fun _ _ _ _ _ _ us hl => match us, hl with | [_, _], _ => rfl), ⟨B.cl.mkr, a1, i1, B.cl.kc⟩, F2, F2.binds (fun _ _ _ _ _ _ us hl => match us, hl with | [_, _], _ => rfl), ⟨a2, i2, k2⟩⟩
  have C4 : Cal P w K mg base _ _ _ := cal_int (B.d4.def X G fun _ _ _ _ _ _ us hl => match us, hl with | [_], _ => rfl) T
  have C5 : Cal P w K mg base _ _ _ := cal_count (B.d5.def X G fun _ _ _ _ _ _ us hl => match us, hl with | [_], _ => rfl) T C4
  have C6 : Cal P w K mg base _ _ _ := cal_from (B.d6.def X G fun _ _ _ _ _ _ us hl => match us, hl with | [_], _ => rfl) T
  have C7 : Cal P w K mg base _ _ _ := cal_add (B.d7.def X G fun _ _ _ _ _ _ us hl => match us, hl with | [_, _], _ => rfl) T C6
  have C8 : Cal P w K mg base _ _ _ := cal_sub (B.d8.def X G fun _ _ _ _ _ _ us hl => match us, hl with | [_, _], _ => rfl) T C6
  have C9 : Cal P w K mg base _ _ _ := cal_scale (B.d9.def X G fun _ _ _ _ _ _ us hl => match us, hl with | [_, _], _ => rfl) T
  have C10 : Cal P w K mg base _ _ _ := cal_drop (B.d10.def X G fun _ _ _ _ _ _ us hl => match us, hl with | [_, _], _ => rfl) T
  have C13 : Cal P w K mg base _ _ _ := cal_step (B.d13.def X G fun _ _ _ _ _ _ us hl => match us, hl with | [_, _], _ => rfl) T C4 C5
  have C16 : Cal P w K mg base _ _ _ := cal_join (B.d16.def X G fun _ _ _ _ _ _ us hl => match us, hl with | [_, _], _ => rfl) C7 C8 C10
  have C18 : Cal P w K mg base _ _ _ := cal_sp (B.d18.def X G fun _ _ _ _ _ _ us hl => match us, hl with | [_], _ => rfl) C9
  have C19 : Cal P w K mg base _ _ _ := cal_prog (B.d19.def X G fun _ _ _ _ _ _ us hl => match us, hl with | [_], _ => rfl) T C16 C18
  have C23 : Cal P w K mg base _ _ _ := cal_elem (B.d23.def X G fun _ _ _ _ _ _ us hl => match us, hl with | [_], _ => rfl) C13
  have C24 : Cal P w K mg base _ _ _ := cal_chk (B.d24.def X G fun _ _ _ _ _ _ us hl => match us, hl with | [_], _ => rfl) T C23
  have C25 : Cal P w K mg base _ _ _ := cal_parts (B.d25.def X G fun _ _ _ _ _ _ us hl => match us, hl with | [_], _ => rfl) T C19
  have C30 : Cal P w K mg base _ _ _ := cal_exch (B.d30.def X G fun _ _ _ _ _ _ us hl => match us, hl with | [_, _], _ => rfl)
  have C31 : Cal P w K mg base _ _ _ := cal_allow (B.d31.def X G fun _ _ _ _ _ _ us hl => match us, hl with | [_, _], _ => rfl) C25 C30
  have C32 : Cal P w K mg base _ _ _ := cal_roles (B.d32.def X G fun _ _ _ _ _ _ us hl => match us, hl with | [_], _ => rfl) T
  have C33 : Cal P w K mg base _ _ _ := cal_key (B.d33.def X G fun _ _ _ _ _ _ us hl => match us, hl with | [_, _], _ => rfl) T
  have C35 : Cal P w K mg base _ _ _ := cal_ne (B.d35.def X G fun _ _ _ _ _ _ us hl => match us, hl with | [_], _ => rfl) TB T N NF C32 C33
  have C36 : Cal P w K mg base _ _ _ := cal_der (B.d36.def X G fun _ _ _ _ _ _ us hl => match us, hl with | [_, _], _ => rfl) T C24 C25 C35
  have C37 : Cal P w K mg base _ _ _ := cal_cd (B.d37.def X G fun _ _ _ _ _ _ us hl => match us, hl with | [_, _, _], _ => rfl) T C24 C5 C31 C30
  have C39 : Cal P w K mg base _ _ _ := cal_draw (B.d39.def X G fun _ _ _ _ _ _ us hl => match us, hl with | [_, _], _ => rfl) T
  have C40 : Cal P w K mg base _ _ _ := cal_base (B.d40.def X G fun _ _ _ _ _ _ us hl => match us, hl with | [_], _ => rfl) C39
  have C41 : Cal P w K mg base _ _ _ := cal_steps (B.d41.def X G fun _ _ _ _ _ _ us hl => match us, hl with | [_, _, _], _ => rfl) T C40 C39
  have C42 : Cal P w K mg base _ _ _ := cal_lbag (B.d42.def X G fun _ _ _ _ _ _ us hl => match us, hl with | [_], _ => rfl) T
  have C43 : Cal P w K mg base _ _ _ := cal_triple (B.d43.def X G fun _ _ _ _ _ _ us hl => match us, hl with | [_], _ => rfl) T C42
  have C44 : Cal P w K mg base _ _ _ := cal_llist (B.d44.def X G fun _ _ _ _ _ _ us hl => match us, hl with | [_], _ => rfl)
  have C45 : Cal P w K mg base _ _ _ := cal_shuf (B.d45.def X G fun _ _ _ _ _ _ us hl => match us, hl with | [_, _], _ => rfl) T C39
  have C46 : Cal P w K mg base _ _ _ := cal_swapped (B.d46.def X G fun _ _ _ _ _ _ us hl => match us, hl with | [_, _], _ => rfl)
  have C47 : Cal P w K mg base _ _ _ := cal_wand (B.d47.def X G fun _ _ _ _ _ _ us hl => match us, hl with | [_, _], _ => rfl) T C39 C43 C46
  have C48 : Cal P w K mg base _ _ _ := cal_normal (B.d48.def X G fun _ _ _ _ _ _ us hl => match us, hl with | [_], _ => rfl) C43 C44
  have C49 : Cal P w K mg base _ _ _ := cal_target (B.d49.def X G fun _ _ _ _ _ _ us hl => match us, hl with | [_, _], _ => rfl) T C39 C47 C48 C45 C41
  have C50 : Cal P w K mg base _ _ _ := cal_leads (B.d50.def X G fun _ _ _ _ _ _ us hl => match us, hl with | [_, _, _], _ => rfl) T C43 C46
  have C51 : Cal P w K mg base _ _ _ := cal_long (B.d51.def X G fun _ _ _ _ _ _ us hl => match us, hl with | [_], _ => rfl) T C39 C41 C47 C48 C36 C43 C46
  obtain ⟨f, oc, od, kV, doc, pm, an, cd, ct, osl, h1, l, hc, hk⟩ := B.d52.ex
  have e := hfa.symm.trans (PySem.W.mg_of X G h1)
  cases e
  have hr : Room 8 callerA := ⟨rfl, by decide, by decide⟩
  refine run_ofS (N := ["_law_script", "_law_pool", "_law_steps_here", "_law_target_here", "_law_given", "_law_found"]) (ps := ["_law_script"]) (us := [.ref a]) (vs := [.ref a]) l hc sc52 hr e0 (.of_eq rfl) (.cons rfl .nil) rfl fun hr' => ?_
  have tb : Tabs [(Pt, lamQ)] H := fun p hp => by
    rw [List.mem_singleton.mp hp]
    exact TabS.nil hP
  obtain ⟨t, h2, h3⟩ := law_body (Q := fun v _ => v = .bl true) T C51 C39 C41 C49 C36 C43 C37 C50 (A := callerA) (outer := []) (s := s) (E := E0) rfl hr' hS tb (fun _ => rfl)
  exact ⟨t, h2.nox, h3⟩
end HX
set_option Elab.async false
set_option linter.all false
set_option maxRecDepth 100000
set_option maxHeartbeats 1000000
/-! ### the row -/
namespace HX
open PySem PySem.Spec PyProof.Rows L2 LamX
theorem fin_mk {l : PySem.W.OpenLaw} {w : World} {K : PySem.W.Frag} {h : Heap} {mg : Str → Option Value} {fa C c Pt : Addr} (X : K.In h) (G : h.Ns mainGlobals mg) (hfa : mg "law" = some (.ref fa)) (hT : h.get? Pt = some (PySem.W.tabObj #[])) (nP : K.lookup Pt = none) (B : AllK K C c) (ch : PySem.W.codeHdIn K c Pt = true)
    (z1 : PySem.W.nsIn K mainGlobals "len" = some none) (z2 : PySem.W.nsIn K mainGlobals "min" = some none) (z3 : PySem.W.nsIn K mainGlobals "sorted" = some none) (z4 : PySem.W.nsIn K mainGlobals "tuple" = some none) (z5 : PySem.W.nsIn K mainGlobals "list" = some none) (z6 : PySem.W.nsIn K mainGlobals "dict" = some none) (z7 : PySem.W.nsIn K mainGlobals "set" = some none) (z8 : PySem.W.nsIn K mainGlobals "any" = some none) (z9 : PySem.W.nsIn K mainGlobals "isinstance" = some none) (z10 : PySem.W.nsIn K mainGlobals "range" = some none) (z11 : PySem.W.nsIn K mainGlobals "enumerate" = some none) (z12 : PySem.W.nsIn K mainGlobals "zip" = some none) (z13 : PySem.W.nsIn K mainGlobals "repr" = some none) (z14 : PySem.W.nsIn K mainGlobals "int" = some none) (z15 : PySem.W.nsIn K mainGlobals "bool" = some none) :
    ∃ (K : PySem.W.Frag) (c Pt : Addr), K.In h ∧ h.get? Pt = some { cls := .none, data := .fields #[] } ∧ K.lookup Pt = none ∧ PySem.W.CodeHd h c Pt ∧ Answers l.prog w K mg fa c Pt :=
  ⟨K, c, Pt, X, hT, nP, PySem.W.codeHd_of_K X ch, answers X G hfa B (txt_of X G B.con z1 z2 z3 z4 z5 z6 z7 z8 z9 z10 z11 z12 z13 z14 z15)⟩
end HX

open PySem PySem.W PyProof.Rows in
set_option maxRecDepth 100000 in
set_option maxHeartbeats 0 in
theorem PySem.Challenge.cw_heapeffects_k57_whole_derivations_holds : PySem.Challenge.rw_heapeffects_k57_whole_derivations.Holds := by
  w_on; o_law; k_head; (case hw => w_witness2)
  k_fill
  refine HX.walk_mine (l := PySem.Challenge.rw_heapeffects_k57_whole_derivations) rfl rfl ?F
  case F =>
    intro w mg fa h Y G hmg
    have KX := PySem.W.km_in_of Y
    have hT := PySem.W.km_tabs_of Y 205 (by k_mem)
    refine' HX.fin_mk KX G hmg hT ?nP ?B ?ch ?z1 ?z2 ?z3 ?z4 ?z5 ?z6 ?z7 ?z8 ?z9 ?z10 ?z11 ?z12 ?z13 ?z14 ?z15
    (case nP => kernel_rfl)
    (case B =>
      refine' HX.AllK.mk ?con ?d4 ?d5 ?d6 ?d7 ?d8 ?d9 ?d10 ?d13 ?d16 ?d18 ?d19 ?d23 ?d24 ?d25 ?d30 ?d31 ?d32 ?d33 ?cl ?mi ?ms ?d35 ?d36 ?d37 ?d39 ?d40 ?d41 ?d42 ?d43 ?d44 ?d45 ?d46 ?d47 ?d48 ?d49 ?d50 ?d51 ?d52
      (case con =>
        refine' HX.conK_mk ?q1 ?q2 ?q3 ?q4 ?q5 ?q6 ?q7 ?q8 ?q9 ?q10
        (case q1 => k_is)
        (case q2 => k_is)
        (case q3 => k_is)
        (case q4 => k_is)
        (case q5 => k_is)
        (case q6 => k_is)
        (case q7 => k_is)
        (case q8 => k_is)
        (case q9 => k_is)
        (case q10 => k_is))
      (case d4 =>
        refine' HX.defK_mk ?a ?l ?c ?k
        (case a => k_is)
        (case l => k_is)
        (case c => k_is)
        (case k => k_is))
      (case d5 =>
        refine' HX.defK_mk ?a ?l ?c ?k
        (case a => k_is)
        (case l => k_is)
        (case c => k_is)
        (case k => k_is))
      (case d6 =>
        refine' HX.defK_mk ?a ?l ?c ?k
        (case a => k_is)
        (case l => k_is)
        (case c => k_is)
        (case k => k_is))
      (case d7 =>
        refine' HX.defK_mk ?a ?l ?c ?k
        (case a => k_is)
        (case l => k_is)
        (case c => k_is)
        (case k => k_is))
      (case d8 =>
        refine' HX.defK_mk ?a ?l ?c ?k
        (case a => k_is)
        (case l => k_is)
        (case c => k_is)
        (case k => k_is))
      (case d9 =>
        refine' HX.defK_mk ?a ?l ?c ?k
        (case a => k_is)
        (case l => k_is)
        (case c => k_is)
        (case k => k_is))
      (case d10 =>
        refine' HX.defK_mk ?a ?l ?c ?k
        (case a => k_is)
        (case l => k_is)
        (case c => k_is)
        (case k => k_is))
      (case d13 =>
        refine' HX.defK_mk ?a ?l ?c ?k
        (case a => k_is)
        (case l => k_is)
        (case c => k_is)
        (case k => k_is))
      (case d16 =>
        refine' HX.defK_mk ?a ?l ?c ?k
        (case a => k_is)
        (case l => k_is)
        (case c => k_is)
        (case k => k_is))
      (case d18 =>
        refine' HX.defK_mk ?a ?l ?c ?k
        (case a => k_is)
        (case l => k_is)
        (case c => k_is)
        (case k => k_is))
      (case d19 =>
        refine' HX.defK_mk ?a ?l ?c ?k
        (case a => k_is)
        (case l => k_is)
        (case c => k_is)
        (case k => k_is))
      (case d23 =>
        refine' HX.defK_mk ?a ?l ?c ?k
        (case a => k_is)
        (case l => k_is)
        (case c => k_is)
        (case k => k_is))
      (case d24 =>
        refine' HX.defK_mk ?a ?l ?c ?k
        (case a => k_is)
        (case l => k_is)
        (case c => k_is)
        (case k => k_is))
      (case d25 =>
        refine' HX.defK_mk ?a ?l ?c ?k
        (case a => k_is)
        (case l => k_is)
        (case c => k_is)
        (case k => k_is))
      (case d30 =>
        refine' HX.defK_mk ?a ?l ?c ?k
        (case a => k_is)
        (case l => k_is)
        (case c => k_is)
        (case k => k_is))
      (case d31 =>
        refine' HX.defK_mk ?a ?l ?c ?k
        (case a => k_is)
        (case l => k_is)
        (case c => k_is)
        (case k => k_is))
      (case d32 =>
        refine' HX.defK_mk ?a ?l ?c ?k
        (case a => k_is)
        (case l => k_is)
        (case c => k_is)
        (case k => k_is))
      (case d33 =>
        refine' HX.defK_mk ?a ?l ?c ?k
        (case a => k_is)
        (case l => k_is)
        (case c => k_is)
        (case k => k_is))
      (case cl =>
        refine' HX.ClsK.mk ?aC ?pg ?hd ?po ?sa ?mkr ?kc ?nR ?nE
        (case aC => k_is)
        (case pg => k_is)
        (case hd => k_is)
        (case po => k_is)
        (case sa => k_is)
        (case mkr => k_is)
        (case kc => k_is)
        (case nR => k_is)
        (case nE => k_is))
      (case mi =>
        refine' HX.methK_mk ?a ?i ?l ?c ?k
        (case a => k_is)
        (case i => k_is)
        (case l => k_is)
        (case c => k_is)
        (case k => k_is))
      (case ms =>
        refine' HX.methK_mk ?a ?i ?l ?c ?k
        (case a => k_is)
        (case i => k_is)
        (case l => k_is)
        (case c => k_is)
        (case k => k_is))
      (case d35 =>
        refine' HX.defCK_mk ?a ?l ?c ?k
        (case a => k_is)
        (case l => k_is)
        (case c => k_is)
        (case k => k_is))
      (case d36 =>
        refine' HX.defK_mk ?a ?l ?c ?k
        (case a => k_is)
        (case l => k_is)
        (case c => k_is)
        (case k => k_is))
      (case d37 =>
        refine' HX.defK_mk ?a ?l ?c ?k
        (case a => k_is)
        (case l => k_is)
        (case c => k_is)
        (case k => k_is))
      (case d39 =>
        refine' HX.defK_mk ?a ?l ?c ?k
        (case a => k_is)
        (case l => k_is)
        (case c => k_is)
        (case k => k_is))
      (case d40 =>
        refine' HX.defK_mk ?a ?l ?c ?k
        (case a => k_is)
        (case l => k_is)
        (case c => k_is)
        (case k => k_is))
      (case d41 =>
        refine' HX.defK_mk ?a ?l ?c ?k
        (case a => k_is)
        (case l => k_is)
        (case c => k_is)
        (case k => k_is))
      (case d42 =>
        refine' HX.defK_mk ?a ?l ?c ?k
        (case a => k_is)
        (case l => k_is)
        (case c => k_is)
        (case k => k_is))
      (case d43 =>
        refine' HX.defK_mk ?a ?l ?c ?k
        (case a => k_is)
        (case l => k_is)
        (case c => k_is)
        (case k => k_is))
      (case d44 =>
        refine' HX.defK_mk ?a ?l ?c ?k
        (case a => k_is)
        (case l => k_is)
        (case c => k_is)
        (case k => k_is))
      (case d45 =>
        refine' HX.defK_mk ?a ?l ?c ?k
        (case a => k_is)
        (case l => k_is)
        (case c => k_is)
        (case k => k_is))
      (case d46 =>
        refine' HX.defK_mk ?a ?l ?c ?k
        (case a => k_is)
        (case l => k_is)
        (case c => k_is)
        (case k => k_is))
      (case d47 =>
        refine' HX.defK_mk ?a ?l ?c ?k
        (case a => k_is)
        (case l => k_is)
        (case c => k_is)
        (case k => k_is))
      (case d48 =>
        refine' HX.defK_mk ?a ?l ?c ?k
        (case a => k_is)
        (case l => k_is)
        (case c => k_is)
        (case k => k_is))
      (case d49 =>
        refine' HX.defK_mk ?a ?l ?c ?k
        (case a => k_is)
        (case l => k_is)
        (case c => k_is)
        (case k => k_is))
      (case d50 =>
        refine' HX.defK_mk ?a ?l ?c ?k
        (case a => k_is)
        (case l => k_is)
        (case c => k_is)
        (case k => k_is))
      (case d51 =>
        refine' HX.defK_mk ?a ?l ?c ?k
        (case a => k_is)
        (case l => k_is)
        (case c => k_is)
        (case k => k_is))
      (case d52 =>
        refine' HX.defK_mk ?a ?l ?c ?k
        (case a => k_is)
        (case l => k_is)
        (case c => k_is)
        (case k => k_is)))
    (case ch => kernel_rfl)
    (case z1 => k_is)
    (case z2 => k_is)
    (case z3 => k_is)
    (case z4 => k_is)
    (case z5 => k_is)
    (case z6 => k_is)
    (case z7 => k_is)
    (case z8 => k_is)
    (case z9 => k_is)
    (case z10 => k_is)
    (case z11 => k_is)
    (case z12 => k_is)
    (case z13 => k_is)
    (case z14 => k_is)
    (case z15 => k_is)
