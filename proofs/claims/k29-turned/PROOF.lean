import PyProof.Rows.All
import Wide.All
import OpenK.AllK
import Wide.FinOn
import HandS.ForMost
import KE.GoesMore
import KE.GoesEnum
import HandS.Walk
import HandS.Evl
import HandS.TupAny
import HandS.Conv
import HandS.IsInst
import HandS.Codes
import HandS.GenCall
import HandS.GenList
import PyProof.ForAny
import KE.KDictZip
import HandS.Dict
import KE.KDictCopyH
import HandS.DictTup
import HandS.SortOrd
import HandS.NoneIn
import KE.KFmtOwn
import PyProof.InstEq
import PyProof.Rows.FactsN_abs
import HandS.OwnEq
import PySem.Challenge.RW_crewlists_k29_whole_people_and_jobs_turn
set_option Elab.async false
set_option linter.all false
set_option maxRecDepth 100000
set_option maxHeartbeats 4000000
/-! CLa: counting, Hall's theorem by the jobs, with lacks; plain Lean. -/
namespace CL

def cnt (n : Nat) (P : Nat → Bool) : Nat := (List.range n).countP P

theorem cnt_zero (P : Nat → Bool) : cnt 0 P = 0 := rfl
theorem cnt_succ (n : Nat) (P : Nat → Bool) : cnt (n + 1) P = cnt n P + (if P n = true then 1 else 0) := by
  unfold cnt
  rw [List.range_succ, List.countP_append, List.countP_singleton]
theorem cnt_congr {n : Nat} {P Q : Nat → Bool} (h : ∀ x, x < n → P x = Q x) : cnt n P = cnt n Q := by
  induction n with
  | zero => rfl
  | succ n ih =>
    rw [cnt_succ, cnt_succ, ih (fun x hx => h x (by omega)), h n (by omega)]
theorem cnt_mono {n : Nat} {P Q : Nat → Bool} (h : ∀ x, x < n → P x = true → Q x = true) : cnt n P ≤ cnt n Q := by
  induction n with
  | zero => exact Nat.le_refl _
  | succ n ih =>
    rw [cnt_succ, cnt_succ]
    have h1 := ih (fun x hx => h x (by omega))
    have h2 := h n (by omega)
    by_cases e : P n = true
    · rw [if_pos e, if_pos (h2 e)]
      omega
    · rw [if_neg e]
      omega
theorem cnt_or_and (n : Nat) (P Q : Nat → Bool) : cnt n (fun x => P x || Q x) + cnt n (fun x => P x && Q x) = cnt n P + cnt n Q := by
  induction n with
  | zero => rfl
  | succ n ih =>
    rw [cnt_succ, cnt_succ, cnt_succ, cnt_succ]
    cases e1 : P n <;> cases e2 : Q n <;> simp [e1, e2] <;> omega
theorem cnt_le (n : Nat) (P : Nat → Bool) : cnt n P ≤ n := by
  induction n with
  | zero => exact Nat.le_refl _
  | succ n ih =>
    rw [cnt_succ]
    split <;> omega
theorem cnt_false {n : Nat} {P : Nat → Bool} (h : ∀ x, x < n → P x = false) : cnt n P = 0 := by
  induction n with
  | zero => rfl
  | succ n ih => rw [cnt_succ, ih (fun x hx => h x (by omega)), h n (by omega)] <;> rfl
theorem cnt_pos {n : Nat} {P : Nat → Bool} (h : 0 < cnt n P) : ∃ x, x < n ∧ P x = true := by
  by_cases e : ∃ x, x < n ∧ P x = true
  · exact e
  · exfalso
    have : cnt n P = 0 := cnt_false fun x hx => by
      cases q : P x with
      | false => rfl
      | true => exact (e ⟨x, hx, q⟩).elim
    omega
/-- one taken out -/
theorem cnt_but {n b : Nat} {P : Nat → Bool} (hb : b < n) (h : P b = true) : cnt n P = cnt n (fun x => P x && decide (x ≠ b)) + 1 := by
  induction n with
  | zero => omega
  | succ n ih =>
    rw [cnt_succ, cnt_succ]
    by_cases e : b = n
    · subst e
      rw [if_pos h, if_neg (by simp)]
      have : cnt b P = cnt b (fun x => P x && decide (x ≠ b)) := cnt_congr fun x hx => by
        rw [decide_eq_true (show x ≠ b by omega), Bool.and_true]
      omega
    · rw [ih (by omega)]
      have : (P n && decide (n ≠ b)) = P n := by rw [decide_eq_true (show n ≠ b by omega), Bool.and_true]
      rw [this]
      omega
theorem cnt_inj {n m : Nat} {P Q : Nat → Bool} (f : Nat → Nat) (h : ∀ x, x < n → P x = true → f x < m ∧ Q (f x) = true)
    (inj : ∀ x y, x < n → y < n → P x = true → P y = true → f x = f y → x = y) : cnt n P ≤ cnt m Q := by
  induction n generalizing Q with
  | zero => exact Nat.zero_le _
  | succ n ih =>
    rw [cnt_succ]
    by_cases e : P n = true
    · rw [if_pos e]
      obtain ⟨h1, h2⟩ := h n (by omega) e
      rw [cnt_but h1 h2]
      have := ih (Q := fun x => Q x && decide (x ≠ f n)) (fun x hx px => by
        obtain ⟨a, b⟩ := h x (by omega) px
        refine ⟨a, ?_⟩
        have ne : f x ≠ f n := fun q => by
          have := inj x n (by omega) (by omega) px e q
          omega
        show (Q (f x) && decide (f x ≠ f n)) = true
        rw [b, decide_eq_true ne]
        rfl) (fun x y hx hy => inj x y (by omega) (by omega))
      omega
    · rw [if_neg e]
      exact ih (fun x hx => h x (by omega)) (fun x y hx hy => inj x y (by omega) (by omega))
theorem cnt_split (n : Nat) (P Q : Nat → Bool) : cnt n P = cnt n (fun x => P x && Q x) + cnt n (fun x => P x && !Q x) := by
  induction n with
  | zero => rfl
  | succ n ih =>
    rw [cnt_succ, cnt_succ, cnt_succ, ih]
    cases e1 : P n <;> cases e2 : Q n <;> simp [e1, e2] <;> omega

/-! ### Hall, groups as truth values below n, jobs below m -/
/-- job j is open to T -/
def nb (E : Nat → Nat → Bool) (n : Nat) (T : Nat → Bool) (j : Nat) : Bool := (List.range n).any fun p => T p && E p j
theorem nb_iff {E : Nat → Nat → Bool} {n : Nat} {T : Nat → Bool} {j : Nat} : nb E n T j = true ↔ ∃ p, p < n ∧ T p = true ∧ E p j = true := by
  unfold nb
  rw [List.any_eq_true]
  constructor
  · rintro ⟨p, hp, h⟩
    rw [Bool.and_eq_true] at h
    exact ⟨p, List.mem_range.mp hp, h.1, h.2⟩
  · rintro ⟨p, hp, h1, h2⟩
    exact ⟨p, List.mem_range.mpr hp, by rw [h1, h2]; rfl⟩
def Sub (n : Nat) (T G : Nat → Bool) : Prop := ∀ p, p < n → T p = true → G p = true
def Hall (E : Nat → Nat → Bool) (n m : Nat) (G : Nat → Bool) : Prop := ∀ T, Sub n T G → cnt n T ≤ cnt m (nb E n T)
/-- everyone of G has a job below m of their own -/
def Pl (E : Nat → Nat → Bool) (n m : Nat) (G : Nat → Bool) : Prop :=
  ∃ f : Nat → Nat, (∀ p, p < n → G p = true → f p < m ∧ E p (f p) = true) ∧ ∀ p q, p < n → q < n → G p = true → G q = true → f p = f q → p = q
theorem Pl.hall {E : Nat → Nat → Bool} {n m : Nat} {G : Nat → Bool} (h : Pl E n m G) : Hall E n m G := by
  obtain ⟨f, h1, h2⟩ := h
  intro T hT
  refine cnt_inj f (fun x hx tx => ?_) fun x y hx hy tx ty => h2 x y hx hy (hT x hx tx) (hT y hy ty)
  obtain ⟨a, b⟩ := h1 x hx (hT x hx tx)
  exact ⟨a, nb_iff.mpr ⟨x, hx, tx, b⟩⟩
theorem least_of {α : Type} (P : α → Prop) (μ : α → Nat) (h : ∃ a, P a) : ∃ a, P a ∧ ∀ b, P b → μ a ≤ μ b := by
  have key : ∀ k a, P a → μ a ≤ k → ∃ a, P a ∧ ∀ b, P b → μ a ≤ μ b := by
    intro k
    induction k with
    | zero => exact fun a pa ha => ⟨a, pa, fun b _ => by omega⟩
    | succ k ih =>
      intro a pa ha
      by_cases q : ∃ b, P b ∧ μ b < μ a
      · obtain ⟨b, pb, hb⟩ := q
        exact ih b pb (by omega)
      · exact ⟨a, pa, fun b pb => Nat.le_of_not_lt fun z => q ⟨b, pb, z⟩⟩
  obtain ⟨a, pa⟩ := h
  exact key (μ a) a pa (Nat.le_refl _)
theorem cnt_eq_sub {n : Nat} {P Q : Nat → Bool} (hs : ∀ x, x < n → P x = true → Q x = true) (hc : cnt n Q ≤ cnt n P) : ∀ x, x < n → Q x = true → P x = true := by
  intro x hx qx
  cases e : P x with
  | true => rfl
  | false =>
    exfalso
    have h1 := cnt_but hx qx
    have h2 : cnt n P ≤ cnt n (fun y => Q y && decide (y ≠ x)) := cnt_mono fun y hy py => by
      have ne : y ≠ x := fun z => by
        rw [z, e] at py
        cases py
      show (Q y && decide (y ≠ x)) = true
      rw [hs y hy py, decide_eq_true ne]
      rfl
    omega
theorem hall {E : Nat → Nat → Bool} {n : Nat} : ∀ (m : Nat) (G : Nat → Bool), Hall E n m G → Pl E n m G := by
  intro m
  induction m with
  | zero =>
    intro G h
    refine ⟨fun _ => 0, fun p hp gp => ?_, fun p q hp hq gp gq _ => ?_⟩
    · exfalso
      have h1 := h G fun _ _ z => z
      rw [cnt_zero] at h1
      have h2 := cnt_but hp gp
      omega
    · exfalso
      have h1 := h G fun _ _ z => z
      rw [cnt_zero] at h1
      have h2 := cnt_but hp gp
      omega
  | succ m ih =>
    intro G h
    by_cases hm : Hall E n m G
    · obtain ⟨f, h1, h2⟩ := ih G hm
      exact ⟨f, fun p hp gp => ⟨by have := (h1 p hp gp).1; omega, (h1 p hp gp).2⟩, h2⟩
    · -- the violators
      have hv : ∃ T, Sub n T G ∧ cnt m (nb E n T) < cnt n T := by
        refine Classical.byContradiction fun q => hm fun T hT => ?_
        exact Nat.le_of_not_lt fun z => q ⟨T, hT, z⟩
      obtain ⟨T, ⟨hT, vT⟩, least⟩ := least_of _ (cnt n) hv
      have one : ∀ A, Sub n A G → cnt n A ≤ cnt m (nb E n A) + 1 := fun A hA => by
        have z := h A hA
        rw [cnt_succ] at z
        split at z <;> omega
      have meet : ∀ B, Sub n B G → cnt m (nb E n B) < cnt n B → ∀ p, p < n → T p = true → B p = true := by
        intro B hB vB
        have sU : Sub n (fun x => T x || B x) G := fun p hp z => by
          rcases (Bool.or_eq_true _ _).mp z with z | z
          · exact hT p hp z
          · exact hB p hp z
        have sI : Sub n (fun x => T x && B x) G := fun p hp z => hT p hp ((Bool.and_eq_true _ _).mp z).1
        have c1 := cnt_or_and n T B
        have c2 := cnt_or_and m (nb E n T) (nb E n B)
        have c3 : cnt m (nb E n fun x => T x || B x) ≤ cnt m (fun j => nb E n T j || nb E n B j) := cnt_mono fun j hj z => by
          obtain ⟨p, hp, tp, ep⟩ := nb_iff.mp z
          rw [Bool.or_eq_true]
          rcases (Bool.or_eq_true _ _).mp tp with z | z
          · exact .inl (nb_iff.mpr ⟨p, hp, z, ep⟩)
          · exact .inr (nb_iff.mpr ⟨p, hp, z, ep⟩)
        have c4 : cnt m (nb E n fun x => T x && B x) ≤ cnt m (fun j => nb E n T j && nb E n B j) := cnt_mono fun j hj z => by
          obtain ⟨p, hp, tp, ep⟩ := nb_iff.mp z
          obtain ⟨t1, t2⟩ := (Bool.and_eq_true _ _).mp tp
          rw [Bool.and_eq_true]
          exact ⟨nb_iff.mpr ⟨p, hp, t1, ep⟩, nb_iff.mpr ⟨p, hp, t2, ep⟩⟩
        have c5 := one _ sU
        have c6 := least (fun x => T x && B x) ⟨sI, by omega⟩
        intro p hp tp
        have := cnt_eq_sub (P := fun x => T x && B x) (Q := T) (fun x _ z => ((Bool.and_eq_true _ _).mp z).1) c6 p hp tp
        exact ((Bool.and_eq_true _ _).mp this).2
      -- someone of T can do the job m
      have hj : nb E n T m = true := by
        have z := h T hT
        rw [cnt_succ] at z
        by_cases e : nb E n T m = true
        · exact e
        · rw [if_neg e] at z
          omega
      obtain ⟨p, hp, tp, ep⟩ := nb_iff.mp hj
      have gp : G p = true := hT p hp tp
      have hG : Hall E n m (fun x => G x && decide (x ≠ p)) := fun B hB => by
        refine Nat.le_of_not_lt fun vB => ?_
        have bp := meet B (fun x hx bx => ((Bool.and_eq_true _ _).mp (hB x hx bx)).1) vB p hp tp
        have z := ((Bool.and_eq_true _ _).mp (hB p hp bp)).2
        exact of_decide_eq_true z rfl
      obtain ⟨f, h1, h2⟩ := ih _ hG
      have rest : ∀ x, G x = true → x ≠ p → (G x && decide (x ≠ p)) = true := fun x gx ne => by
        rw [gx, decide_eq_true ne]
        rfl
      refine ⟨fun x => if x = p then m else f x, fun x hx gx => ?_, fun x y hx hy gx gy e => ?_⟩
      · by_cases z : x = p
        · subst z
          show (if x = x then m else f x) < m + 1 ∧ E x (if x = x then m else f x) = true
          rw [if_pos rfl]
          exact ⟨Nat.lt_succ_self _, ep⟩
        · show (if x = p then m else f x) < m + 1 ∧ E x (if x = p then m else f x) = true
          rw [if_neg z]
          have := h1 x hx (rest x gx z)
          exact ⟨by omega, this.2⟩
      · have e : (if x = p then m else f x) = (if y = p then m else f y) := e
        by_cases zx : x = p <;> by_cases zy : y = p
        · rw [zx, zy]
        · rw [if_pos zx, if_neg zy] at e
          have := (h1 y hy (rest y gy zy)).1
          omega
        · rw [if_neg zx, if_pos zy] at e
          have := (h1 x hx (rest x gx zx)).1
          omega
        · rw [if_neg zx, if_neg zy] at e
          exact h2 x y hx hy (rest x gx zx) (rest y gy zy) e
theorem cnt_all {n : Nat} {P : Nat → Bool} (h : ∀ x, x < n → P x = true) : cnt n P = n := by
  induction n with
  | zero => rfl
  | succ n ih => rw [cnt_succ, ih (fun x hx => h x (by omega)), if_pos (h n (by omega))]
theorem cnt_add (a b : Nat) (P : Nat → Bool) : cnt (a + b) P = cnt a P + cnt b (fun x => P (a + x)) := by
  induction b with
  | zero => rfl
  | succ b ih => rw [← Nat.add_assoc, cnt_succ, cnt_succ, ih]; omega
/-- with lacks: where no part exceeds its jobs by more than d, all but d have jobs -/
theorem hall_lack {E : Nat → Nat → Bool} {n m d : Nat} {G : Nat → Bool} (h : ∀ T, Sub n T G → cnt n T ≤ cnt m (nb E n T) + d) : ∃ S, Sub n S G ∧ Pl E n m S ∧ cnt n G ≤ cnt n S + d := by
  have hh : Hall (fun p j => decide (m ≤ j) || E p j) n (m + d) G := fun T hT => by
    by_cases hc : 0 < cnt n T
    · obtain ⟨p, hp, tp⟩ := cnt_pos hc
      rw [cnt_add]
      have h1 := h T hT
      have h2 : cnt d (fun x => nb (fun p j => decide (m ≤ j) || E p j) n T (m + x)) = d := cnt_all fun x hx => nb_iff.mpr ⟨p, hp, tp, by
        rw [decide_eq_true (show m ≤ m + x by omega)]
        rfl⟩
      have h3 : cnt m (nb E n T) ≤ cnt m (nb (fun p j => decide (m ≤ j) || E p j) n T) := cnt_mono fun j hj z => by
        obtain ⟨q, hq, tq, eq⟩ := nb_iff.mp z
        exact nb_iff.mpr ⟨q, hq, tq, by rw [eq, Bool.or_true]⟩
      omega
    · omega
  obtain ⟨f, h1, h2⟩ := hall (m + d) G hh
  refine ⟨fun p => G p && decide (f p < m), fun p hp z => ((Bool.and_eq_true _ _).mp z).1, ⟨f, fun p hp z => ?_, fun p q hp hq gp gq => h2 p q hp hq ((Bool.and_eq_true _ _).mp gp).1 ((Bool.and_eq_true _ _).mp gq).1⟩, ?_⟩
  · obtain ⟨z1, z2⟩ := (Bool.and_eq_true _ _).mp z
    have lt : f p < m := of_decide_eq_true z2
    have this : (decide (m ≤ f p) || E p (f p)) = true := (h1 p hp z1).2
    rw [decide_eq_false (show ¬ m ≤ f p by omega), Bool.false_or] at this
    exact ⟨lt, this⟩
  · rw [cnt_split n G (fun p => decide (f p < m))]
    have : cnt n (fun x => G x && !decide (f x < m)) ≤ cnt d (fun _ => true) := cnt_inj (fun x => f x - m) (fun x hx z => by
      obtain ⟨z1, z2⟩ := (Bool.and_eq_true _ _).mp z
      have z3 : ¬ f x < m := by
        intro w
        rw [decide_eq_true w] at z2
        cases z2
      have := (h1 x hx z1).1
      exact ⟨by omega, rfl⟩) (fun x y hx hy zx zy e => by
      obtain ⟨x1, x2⟩ := (Bool.and_eq_true _ _).mp zx
      obtain ⟨y1, y2⟩ := (Bool.and_eq_true _ _).mp zy
      have x3 : ¬ f x < m := by
        intro w
        rw [decide_eq_true w] at x2
        cases x2
      have y3 : ¬ f y < m := by
        intro w
        rw [decide_eq_true w] at y2
        cases y2
      exact h2 x y hx hy x1 y1 (by have e : f x - m = f y - m := e; omega))
    have := cnt_le d (fun _ => true)
    omega
/-- no placeable part is greater than what the lacks leave -/
theorem pl_lack {E : Nat → Nat → Bool} {n m : Nat} {G S T : Nat → Bool} (hS : Sub n S G) (hT : Sub n T G) (pl : Pl E n m S) : cnt n S + cnt n T ≤ cnt n G + cnt m (nb E n T) := by
  have h1 := pl.hall (fun x => S x && T x) fun p _ z => ((Bool.and_eq_true _ _).mp z).1
  have h2 := cnt_or_and n S T
  have h3 : cnt n (fun x => S x || T x) ≤ cnt n G := cnt_mono fun x hx z => by
    rcases (Bool.or_eq_true _ _).mp z with z | z
    · exact hS x hx z
    · exact hT x hx z
  have h4 : cnt m (nb E n fun x => S x && T x) ≤ cnt m (nb E n T) := cnt_mono fun j hj z => by
    obtain ⟨p, hp, tp, ep⟩ := nb_iff.mp z
    exact nb_iff.mpr ⟨p, hp, ((Bool.and_eq_true _ _).mp tp).2, ep⟩
  omega
end CL

/-! CLb: groups, parts, open jobs, placeable groups as the program reckons them; plain Lean. -/
namespace CL

abbrev Asc (g : List Nat) : Prop := g.Pairwise (· < ·)
def gp (g : List Nat) (p : Nat) : Bool := g.contains p
theorem gp_iff {g : List Nat} {p : Nat} : gp g p = true ↔ p ∈ g := by unfold gp; simp
theorem Asc.nodup {g : List Nat} (h : Asc g) : g.Nodup := List.Pairwise.imp (fun z => Nat.ne_of_lt z) h
theorem cnt_gp {n : Nat} : ∀ {g : List Nat}, g.Nodup → (∀ x ∈ g, x < n) → cnt n (gp g) = g.length
  | [], _, _ => cnt_false fun x _ => rfl
  | a :: t, hd, hl => by
    have hd := List.nodup_cons.mp hd
    rw [cnt_but (b := a) (hl a (by simp)) (gp_iff.mpr (by simp)), List.length_cons, ← cnt_gp hd.2 fun x hx => hl x (by simp [hx])]
    congr 1
    refine cnt_congr fun x _ => ?_
    rw [Bool.eq_iff_iff, Bool.and_eq_true, gp_iff, gp_iff, decide_eq_true_iff, List.mem_cons]
    constructor
    · rintro ⟨z | z, ne⟩
      · exact (ne z).elim
      · exact z
    · intro z
      exact ⟨.inr z, fun e => hd.1 (e ▸ z)⟩
/-- the group of a truth value -/
def lst (n : Nat) (P : Nat → Bool) : List Nat := (List.range n).filter P
theorem mem_lst {n p : Nat} {P : Nat → Bool} : p ∈ lst n P ↔ p < n ∧ P p = true := by unfold lst; rw [List.mem_filter, List.mem_range]
theorem asc_range (n : Nat) : Asc (List.range n) := List.pairwise_lt_range
theorem asc_lst (n : Nat) (P : Nat → Bool) : Asc (lst n P) := List.Pairwise.sublist List.filter_sublist (asc_range n)
theorem length_lst (n : Nat) (P : Nat → Bool) : (lst n P).length = cnt n P := by unfold lst cnt; rw [List.countP_eq_length_filter]
theorem asc_ext : ∀ {a b : List Nat}, Asc a → Asc b → (∀ x, x ∈ a ↔ x ∈ b) → a = b
  | [], [], _, _, _ => rfl
  | [], y :: b, _, _, h => by have := (h y).mpr (by simp); cases this
  | x :: a, [], _, _, h => by have := (h x).mp (by simp); cases this
  | x :: a, y :: b, ha, hb, h => by
    obtain ⟨ha1, ha2⟩ := List.pairwise_cons.mp ha
    obtain ⟨hb1, hb2⟩ := List.pairwise_cons.mp hb
    have e : x = y := by
      have h1 := (h x).mp (by simp)
      have h2 := (h y).mpr (by simp)
      rcases List.mem_cons.mp h1 with z | z
      · exact z
      · rcases List.mem_cons.mp h2 with w | w
        · exact w.symm
        · have := ha1 y w
          have := hb1 x z
          omega
    subst e
    rw [asc_ext ha2 hb2 fun z => ?_]
    constructor
    · intro hz
      rcases List.mem_cons.mp ((h z).mp (by simp [hz])) with w | w
      · have := ha1 z hz
        omega
      · exact w
    · intro hz
      rcases List.mem_cons.mp ((h z).mpr (by simp [hz])) with w | w
      · have := hb1 z hz
        omega
      · exact w

/-! ### all groups of a size, level by level -/
def lastLt (g : List Nat) (p : Nat) : Bool := match g.getLast? with
  | none => true
  | some q => decide (q < p)
def more (n : Nat) (g : List Nat) : List (List Nat) := ((List.range n).filter (lastLt g)).map fun p => g ++ [p]
def level (n : Nat) : Nat → List (List Nat)
  | 0 => [[]]
  | k + 1 => (level n k).flatMap (more n)
/-- the levels 0 to k -/
def upto (n k : Nat) : List (List Nat) := (List.range (k + 1)).flatMap (level n)
def groupsM (n : Nat) : List (List Nat) := upto n n
theorem upto_zero (n : Nat) : upto n 0 = [[]] := rfl
theorem upto_succ (n k : Nat) : upto n (k + 1) = upto n k ++ level n (k + 1) := by
  unfold upto
  rw [List.range_succ, List.flatMap_append]
  simp
/-- g with entries below n, ascending -/
structure Grp (n : Nat) (g : List Nat) : Prop where
  asc : Asc g
  lt : ∀ x ∈ g, x < n
theorem Grp.nil (n : Nat) : Grp n [] := ⟨List.Pairwise.nil, fun x h => by cases h⟩
theorem Grp.cnt {n : Nat} {g : List Nat} (h : Grp n g) : cnt n (gp g) = g.length := cnt_gp h.asc.nodup h.lt
theorem Grp.len {n : Nat} {g : List Nat} (h : Grp n g) : g.length ≤ n := by rw [← h.cnt]; exact cnt_le _ _
theorem grp_lst (n : Nat) (P : Nat → Bool) : Grp n (lst n P) := ⟨asc_lst n P, fun x h => (mem_lst.mp h).1⟩
theorem Grp.eq_lst {n : Nat} {g : List Nat} (h : Grp n g) : g = lst n (gp g) := asc_ext h.asc (asc_lst _ _) fun x => by
  rw [mem_lst, gp_iff]
  exact ⟨fun z => ⟨h.lt x z, z⟩, fun z => z.2⟩
theorem mem_level {n : Nat} : ∀ {k : Nat} {g : List Nat}, g ∈ level n k ↔ Grp n g ∧ g.length = k
  | 0, g => by
    show g ∈ [[]] ↔ _
    rw [List.mem_singleton]
    constructor
    · rintro rfl
      exact ⟨Grp.nil n, rfl⟩
    · intro h
      exact List.length_eq_zero_iff.mp h.2
  | k + 1, g => by
    show g ∈ (level n k).flatMap (more n) ↔ _
    rw [List.mem_flatMap]
    constructor
    · rintro ⟨a, ha, hg⟩
      obtain ⟨ga, la⟩ := mem_level.mp ha
      unfold more at hg
      obtain ⟨p, hp, rfl⟩ := List.mem_map.mp hg
      obtain ⟨p1, p2⟩ := List.mem_filter.mp hp
      have pn : p < n := List.mem_range.mp p1
      refine ⟨⟨?_, fun x hx => ?_⟩, by rw [List.length_append, la]; rfl⟩
      · refine List.pairwise_append.mpr ⟨ga.asc, List.pairwise_singleton _ _, fun x hx y hy => ?_⟩
        rw [List.mem_singleton.mp hy]
        unfold lastLt at p2
        cases e : a.getLast? with
        | none =>
          rw [List.getLast?_eq_none_iff] at e
          rw [e] at hx
          cases hx
        | some q =>
          rw [e] at p2
          have qp : q < p := of_decide_eq_true p2
          have : x ≤ q := by
            obtain ⟨t, rfl⟩ : ∃ t, a = t ++ [q] := List.getLast?_eq_some_iff.mp e
            have hpw := (List.pairwise_append.mp ga.asc).2.2
            rcases List.mem_append.mp hx with z | z
            · exact Nat.le_of_lt (hpw x z q (by simp))
            · rw [List.mem_singleton.mp z]
              exact Nat.le_refl _
          omega
      · rcases List.mem_append.mp hx with z | z
        · exact ga.lt x z
        · rw [List.mem_singleton.mp z]
          exact pn
    · rintro ⟨hg, hl⟩
      have hne : g ≠ [] := fun e => by rw [e] at hl; cases hl
      have e : g.dropLast ++ [g.getLast hne] = g := List.dropLast_concat_getLast hne
      have hpw := hg.asc
      rw [← e] at hpw
      obtain ⟨p1, _, p3⟩ := List.pairwise_append.mp hpw
      refine ⟨g.dropLast, mem_level.mpr ⟨⟨p1, fun x hx => hg.lt x (List.dropLast_subset _ hx)⟩, by rw [List.length_dropLast, hl]; rfl⟩, ?_⟩
      unfold more
      refine List.mem_map.mpr ⟨g.getLast hne, List.mem_filter.mpr ⟨List.mem_range.mpr (hg.lt _ (List.getLast_mem hne)), ?_⟩, e⟩
      unfold lastLt
      cases q : g.dropLast.getLast? with
      | none => rfl
      | some x => exact decide_eq_true (p3 x (List.mem_of_getLast? q) _ (by simp))
theorem mem_upto {n k : Nat} {g : List Nat} : g ∈ upto n k ↔ Grp n g ∧ g.length ≤ k := by
  unfold upto
  rw [List.mem_flatMap]
  constructor
  · rintro ⟨i, hi, h⟩
    obtain ⟨h1, h2⟩ := mem_level.mp h
    have := List.mem_range.mp hi
    exact ⟨h1, by omega⟩
  · rintro ⟨h1, h2⟩
    exact ⟨g.length, List.mem_range.mpr (by omega), mem_level.mpr ⟨h1, rfl⟩⟩
theorem mem_groups {n : Nat} {g : List Nat} : g ∈ groupsM n ↔ Grp n g := by
  unfold groupsM
  rw [mem_upto]
  exact ⟨fun h => h.1, fun h => ⟨h, h.len⟩⟩
theorem upto_sorted (n : Nat) : ∀ k, (upto n k).Pairwise fun a b => a.length ≤ b.length
  | 0 => List.pairwise_singleton _ _
  | k + 1 => by
    rw [upto_succ]
    refine List.pairwise_append.mpr ⟨upto_sorted n k, ?_, fun a ha b hb => ?_⟩
    · refine List.Pairwise.imp_of_mem (R := fun _ _ => True) (fun {a b} ha hb _ => ?_) (List.pairwise_of_forall fun _ _ => trivial)
      rw [(mem_level.mp ha).2, (mem_level.mp hb).2]
      exact Nat.le_refl _
    · rw [(mem_level.mp hb).2]
      exact Nat.le_succ_of_le (mem_upto.mp ha).2
theorem groups_sorted (n : Nat) : (groupsM n).Pairwise fun a b => a.length ≤ b.length := upto_sorted n n
theorem nil_groups (n : Nat) : [] ∈ groupsM n := mem_groups.mpr (Grp.nil n)
/-- no group twice -/
theorem level_nodup (n : Nat) : ∀ k, (level n k).Nodup
  | 0 => by show ([[]] : List (List Nat)).Nodup; simp
  | k + 1 => by
    show ((level n k).flatMap (more n)).Nodup
    unfold List.Nodup
    rw [List.pairwise_flatMap]
    refine ⟨fun a _ => ?_, List.Pairwise.imp (fun {a b} ne => ?_) (level_nodup n k)⟩
    · unfold more
      rw [List.pairwise_map]
      refine List.Pairwise.imp (fun {p q} ne e => ?_) (List.Pairwise.sublist List.filter_sublist (List.nodup_range (n := n)))
      have := List.append_cancel_left e
      exact ne (by simpa using this)
    · intro x hx y hy e
      unfold more at hx hy
      obtain ⟨p, _, rfl⟩ := List.mem_map.mp hx
      obtain ⟨q, _, rfl⟩ := List.mem_map.mp hy
      exact ne (List.append_inj_left' e rfl)
theorem upto_nodup (n : Nat) : ∀ k, (upto n k).Nodup
  | 0 => by rw [upto_zero]; simp
  | k + 1 => by
    rw [upto_succ]
    unfold List.Nodup
    refine List.pairwise_append.mpr ⟨upto_nodup n k, level_nodup n (k + 1), fun a ha b hb e => ?_⟩
    have h1 := (mem_upto.mp ha).2
    have h2 := (mem_level.mp hb).2
    rw [e] at h1
    omega
theorem groups_nodup (n : Nat) : (groupsM n).Nodup := upto_nodup n n

/-! ### one taken out of a group -/
def cutAt (g : List Nat) (k : Nat) : List Nat := g.take k ++ g.drop (k + 1)
theorem cutAt_erase (g : List Nat) (k : Nat) : cutAt g k = g.eraseIdx k := (List.eraseIdx_eq_take_drop_succ g k).symm
theorem grp_cut {n : Nat} {g : List Nat} (h : Grp n g) (k : Nat) : Grp n (cutAt g k) := by
  rw [cutAt_erase]
  exact ⟨List.Pairwise.sublist (List.eraseIdx_sublist g k) h.asc, fun x hx => h.lt x ((List.eraseIdx_sublist g k).subset hx)⟩
theorem cut_len {g : List Nat} {k : Nat} (hk : k < g.length) : (cutAt g k).length + 1 = g.length := by
  rw [cutAt_erase, List.length_eraseIdx_of_lt hk]
  omega
theorem mem_cut {g : List Nat} (hd : g.Nodup) {k : Nat} (hk : k < g.length) {x : Nat} : x ∈ cutAt g k ↔ x ∈ g ∧ x ≠ g.getD k 0 := by
  have e : g.getD k 0 = g[k] := by rw [List.getD_eq_getElem?_getD, List.getElem?_eq_getElem hk]; rfl
  rw [cutAt_erase, e, List.mem_eraseIdx_iff_getElem]
  constructor
  · rintro ⟨i, hi, ne, rfl⟩
    exact ⟨List.getElem_mem _, fun z => ne ((List.getElem_inj hd).mp z)⟩
  · rintro ⟨h1, h2⟩
    obtain ⟨i, hi, rfl⟩ := List.getElem_of_mem h1
    exact ⟨i, hi, fun z => h2 (by subst z; rfl), rfl⟩
def shorterM (g : List Nat) : List (List Nat) := (List.range g.length).map (cutAt g)

/-! ### jobs -/
def E (jobs : List (List Nat)) (p j : Nat) : Bool := (jobs.getD j []).contains p
theorem E_iff {jobs : List (List Nat)} {p j : Nat} : E jobs p j = true ↔ p ∈ jobs.getD j [] := by unfold E; simp
def openM (jobs : List (List Nat)) (g : List Nat) : List Nat := (List.range jobs.length).filter fun j => g.any fun p => (jobs.getD j []).contains p
theorem open_len {jobs : List (List Nat)} {n : Nat} {g : List Nat} (h : ∀ x ∈ g, x < n) : (openM jobs g).length = cnt jobs.length (nb (E jobs) n (gp g)) := by
  unfold openM cnt
  rw [List.countP_eq_length_filter]
  congr 1
  refine List.filter_congr fun j _ => ?_
  rw [Bool.eq_iff_iff, nb_iff, List.any_eq_true]
  constructor
  · rintro ⟨p, hp, e⟩
    exact ⟨p, h p hp, gp_iff.mpr hp, e⟩
  · rintro ⟨p, _, hp, e⟩
    exact ⟨p, gp_iff.mp hp, e⟩
def shortM (jobs : List (List Nat)) (g : List Nat) : Int := (g.length : Int) - ((openM jobs g).length : Int)
theorem short_nil (jobs : List (List Nat)) : shortM jobs [] = 0 := by
  unfold shortM openM
  simp
/-! ### the law's own table -/
def fewerM (job g : List Nat) : List (List Nat) := ((List.range g.length).filter fun k => job.contains (g.getD k 0)).map (cutAt g)
def can0 (g : List Nat) : Bool := decide (g = [])
def canStep (f : List Nat → Bool) (job : List Nat) : List Nat → Bool := fun g => f g || (fewerM job g).any f
def canF (jobs : List (List Nat)) : List Nat → Bool := jobs.foldl canStep can0
abbrev PlG (jobs : List (List Nat)) (n k : Nat) (g : List Nat) : Prop := Pl (E jobs) n k (gp g)
theorem Pl.sub {E : Nat → Nat → Bool} {n m : Nat} {G S : Nat → Bool} (h : Pl E n m G) (hs : Sub n S G) : Pl E n m S := by
  obtain ⟨f, h1, h2⟩ := h
  exact ⟨f, fun p hp sp => h1 p hp (hs p hp sp), fun p q hp hq sp sq => h2 p q hp hq (hs p hp sp) (hs q hq sq)⟩
theorem Pl.more {E : Nat → Nat → Bool} {n m k : Nat} {G : Nat → Bool} (h : Pl E n m G) (hk : m ≤ k) : Pl E n k G := by
  obtain ⟨f, h1, h2⟩ := h
  exact ⟨f, fun p hp sp => ⟨Nat.lt_of_lt_of_le (h1 p hp sp).1 hk, (h1 p hp sp).2⟩, h2⟩
theorem pl_nil {E : Nat → Nat → Bool} {n m : Nat} : Pl E n m (gp []) := by
  refine ⟨fun _ => 0, ?_, ?_⟩
  · intro p _ z
    exact absurd (gp_iff.mp z) (by simp)
  · intro p q _ _ z
    exact absurd (gp_iff.mp z) (by simp)
theorem can_take {jobs : List (List Nat)} {n : Nat} : ∀ k, k ≤ jobs.length → ∀ g, Grp n g → (canF (jobs.take k) g = true ↔ PlG jobs n k g) := by
  intro k
  induction k with
  | zero =>
    intro _ g hg
    show decide (g = []) = true ↔ _
    rw [decide_eq_true_iff]
    constructor
    · rintro rfl
      exact pl_nil
    · rintro ⟨f, h1, _⟩
      cases g with
      | nil => rfl
      | cons a t =>
        have := (h1 a (hg.lt a (by simp)) (gp_iff.mpr (by simp))).1
        omega
  | succ k ih =>
    intro hk g hg
    have e : canF (jobs.take (k + 1)) = canStep (canF (jobs.take k)) (jobs.getD k []) := by
      unfold canF
      have : jobs.take (k + 1) = jobs.take k ++ [jobs.getD k []] := by
        rw [List.take_add_one, List.getD_eq_getElem?_getD, List.getElem?_eq_getElem (show k < jobs.length by omega)]
        rfl
      rw [this, List.foldl_append]
      rfl
    rw [e]
    unfold canStep
    rw [Bool.or_eq_true, ih (by omega) g hg, List.any_eq_true]
    constructor
    · rintro (h | ⟨x, hx, cx⟩)
      · exact h.more (Nat.le_succ k)
      · unfold fewerM at hx
        obtain ⟨i, hi, rfl⟩ := List.mem_map.mp hx
        obtain ⟨i1, i2⟩ := List.mem_filter.mp hi
        have il : i < g.length := List.mem_range.mp i1
        obtain ⟨f, h1, h2⟩ := (ih (by omega) _ (grp_cut hg i)).mp cx
        have rest : ∀ q, gp g q = true → q ≠ g.getD i 0 → gp (cutAt g i) q = true := fun q hq ne => gp_iff.mpr ((mem_cut hg.asc.nodup il).mpr ⟨gp_iff.mp hq, ne⟩)
        refine ⟨fun q => if q = g.getD i 0 then k else f q, fun q hq gq => ?_, fun q r hq hr gq gr e => ?_⟩
        · show (if q = g.getD i 0 then k else f q) < k + 1 ∧ E jobs q (if q = g.getD i 0 then k else f q) = true
          by_cases z : q = g.getD i 0
          · rw [if_pos z]
            refine ⟨Nat.lt_succ_self _, ?_⟩
            rw [z]
            exact i2
          · rw [if_neg z]
            have := h1 q hq (rest q gq z)
            exact ⟨by omega, this.2⟩
        · have e : (if q = g.getD i 0 then k else f q) = (if r = g.getD i 0 then k else f r) := e
          by_cases zq : q = g.getD i 0 <;> by_cases zr : r = g.getD i 0
          · rw [zq, zr]
          · rw [if_pos zq, if_neg zr] at e
            have := (h1 r hr (rest r gr zr)).1
            omega
          · rw [if_neg zq, if_pos zr] at e
            have := (h1 q hq (rest q gq zq)).1
            omega
          · rw [if_neg zq, if_neg zr] at e
            exact h2 q r hq hr (rest q gq zq) (rest r gr zr) e
    · rintro ⟨f, h1, h2⟩
      by_cases hp : ∃ p ∈ g, f p = k
      · right
        obtain ⟨p, pg, fp⟩ := hp
        obtain ⟨i, hi, ei⟩ := List.getElem_of_mem pg
        have e : g.getD i 0 = p := by rw [List.getD_eq_getElem?_getD, List.getElem?_eq_getElem hi]; exact ei
        refine ⟨cutAt g i, ?_, (ih (by omega) _ (grp_cut hg i)).mpr ⟨f, fun q hq gq => ?_, fun q r hq hr gq gr => ?_⟩⟩
        · unfold fewerM
          refine List.mem_map.mpr ⟨i, List.mem_filter.mpr ⟨List.mem_range.mpr hi, ?_⟩, rfl⟩
          rw [e]
          have := (h1 p (hg.lt p pg) (gp_iff.mpr pg)).2
          rw [fp] at this
          exact this
        · obtain ⟨q1, q2⟩ := (mem_cut hg.asc.nodup hi).mp (gp_iff.mp gq)
          have := h1 q hq (gp_iff.mpr q1)
          refine ⟨?_, this.2⟩
          have ne : f q ≠ k := fun z => q2 (by rw [e]; exact h2 q p hq (hg.lt p pg) (gp_iff.mpr q1) (gp_iff.mpr pg) (z.trans fp.symm))
          omega
        · exact h2 q r hq hr (gp_iff.mpr ((mem_cut hg.asc.nodup hi).mp (gp_iff.mp gq)).1) (gp_iff.mpr ((mem_cut hg.asc.nodup hi).mp (gp_iff.mp gr)).1)
      · left
        refine ⟨f, fun q hq gq => ?_, h2⟩
        have := h1 q hq gq
        refine ⟨?_, this.2⟩
        have ne : f q ≠ k := fun z => hp ⟨q, gp_iff.mp gq, z⟩
        omega
/-- the law's table tells who is placeable -/
theorem can_iff {jobs : List (List Nat)} {n : Nat} {g : List Nat} (hg : Grp n g) : canF jobs g = true ↔ PlG jobs n jobs.length g := by
  have := can_take (jobs := jobs) (n := n) jobs.length (Nat.le_refl _) g hg
  rw [List.take_length] at this
  exact this
theorem can_nil (jobs : List (List Nat)) : canF jobs [] = true := (can_iff (n := 0) (Grp.nil 0)).mpr pl_nil
/-- the placeable groups in order -/
def plM (n : Nat) (jobs : List (List Nat)) : List (List Nat) := (groupsM n).filter (canF jobs)
/-! ### the program's placeable -/
def plCond (jobs : List (List Nat)) (acc : List (List Nat)) (g : List Nat) : Bool := (shorterM g).all (fun o => acc.contains o) && decide (g.length ≤ (openM jobs g).length)
def plStep (jobs : List (List Nat)) (acc : List (List Nat)) (g : List Nat) : List (List Nat) := if plCond jobs acc g = true then acc ++ [g] else acc
theorem plCond_iff {jobs : List (List Nat)} {n : Nat} {pre post : List (List Nat)} {g : List Nat} (h : groupsM n = pre ++ g :: post) : plCond jobs (pre.filter (canF jobs)) g = canF jobs g := by
  have hg : Grp n g := mem_groups.mp (by rw [h]; simp)
  have early : ∀ k, k < g.length → cutAt g k ∈ pre := fun k hk => by
    have z : cutAt g k ∈ groupsM n := mem_groups.mpr (grp_cut hg k)
    have hs := groups_sorted n
    rw [h] at z hs
    have hl := cut_len hk
    rcases List.mem_append.mp z with z | z
    · exact z
    · exfalso
      have h2 := List.pairwise_cons.mp (List.pairwise_append.mp hs).2.1
      rcases List.mem_cons.mp z with w | w
      · rw [w] at hl
        omega
      · have := h2.1 _ w
        omega
  rw [Bool.eq_iff_iff, can_iff hg]
  unfold plCond
  rw [Bool.and_eq_true, List.all_eq_true, decide_eq_true_iff]
  constructor
  · rintro ⟨h1, h2⟩
    refine hall _ _ fun T hT => ?_
    by_cases hs : ∃ p, p < n ∧ gp g p = true ∧ T p = false
    · obtain ⟨p, hp, g1, t1⟩ := hs
      obtain ⟨i, hi, ei⟩ := List.getElem_of_mem (gp_iff.mp g1)
      have e : g.getD i 0 = p := by rw [List.getD_eq_getElem?_getD, List.getElem?_eq_getElem hi]; exact ei
      have hc : canF jobs (cutAt g i) = true := by
        have := h1 (cutAt g i) (List.mem_map.mpr ⟨i, List.mem_range.mpr hi, rfl⟩)
        exact (List.mem_filter.mp (by simpa using this)).2
      refine ((can_iff (grp_cut hg i)).mp hc).hall T fun x hx tx => gp_iff.mpr ((mem_cut hg.asc.nodup hi).mpr ⟨gp_iff.mp (hT x hx tx), fun z => ?_⟩)
      rw [z, e, t1] at tx
      cases tx
    · have e : ∀ x, x < n → T x = gp g x := fun x hx => by
        cases e1 : T x with
        | true => rw [hT x hx e1]
        | false =>
          cases e2 : gp g x with
          | false => rfl
          | true => exact (hs ⟨x, hx, e2, e1⟩).elim
      rw [cnt_congr e, hg.cnt]
      rw [open_len hg.lt] at h2
      refine Nat.le_trans h2 (Nat.le_of_eq (cnt_congr fun j _ => ?_))
      rw [Bool.eq_iff_iff, nb_iff, nb_iff]
      constructor
      · rintro ⟨p, hp, a, b⟩
        exact ⟨p, hp, by rw [e p hp]; exact a, b⟩
      · rintro ⟨p, hp, a, b⟩
        exact ⟨p, hp, by rw [← e p hp]; exact a, b⟩
  · intro hp
    refine ⟨fun o ho => ?_, ?_⟩
    · obtain ⟨i, hi, rfl⟩ := List.mem_map.mp ho
      have il : i < g.length := List.mem_range.mp hi
      have : canF jobs (cutAt g i) = true := (can_iff (grp_cut hg i)).mpr (hp.sub fun x _ z => gp_iff.mpr ((mem_cut hg.asc.nodup il).mp (gp_iff.mp z)).1)
      simpa using ⟨early i il, this⟩
    · rw [open_len hg.lt, ← hg.cnt]
      exact hp.hall _ fun _ _ z => z
theorem fold_place {jobs : List (List Nat)} {n : Nat} : ∀ (post pre : List (List Nat)), groupsM n = pre ++ post → post.foldl (plStep jobs) (pre.filter (canF jobs)) = plM n jobs
  | [], pre, h => by
    rw [List.append_nil] at h
    unfold plM
    rw [h]
    rfl
  | g :: post, pre, h => by
    rw [List.foldl_cons]
    have e : plStep jobs (pre.filter (canF jobs)) g = (pre ++ [g]).filter (canF jobs) := by
      unfold plStep
      rw [plCond_iff h, List.filter_append]
      cases e : canF jobs g with
      | true => rw [if_pos rfl, List.filter_cons, if_pos e]; rfl
      | false => rw [if_neg Bool.false_ne_true, List.filter_cons, if_neg (by rw [e]; exact Bool.false_ne_true), List.filter_nil, List.append_nil]
    rw [e]
    exact fold_place post (pre ++ [g]) (by rw [h]; simp)
end CL

/-! CLc: parts, lacks, full strength; the turned list; filling jobs while a group works; plain Lean. -/
namespace CL

/-! ### parts of a group -/
def pick (g ix : List Nat) : List Nat := ix.map fun i => g.getD i 0
def partsM (g : List Nat) : List (List Nat) := (groupsM g.length).map (pick g)
theorem getD_at {g : List Nat} {i : Nat} (h : i < g.length) : g.getD i 0 = g[i] := by rw [List.getD_eq_getElem?_getD, List.getElem?_eq_getElem h]; rfl
theorem grp_part {n : Nat} {g T : List Nat} (hg : Grp n g) (h : T ∈ partsM g) : Grp n T ∧ ∀ x ∈ T, x ∈ g := by
  unfold partsM at h
  obtain ⟨ix, hix, rfl⟩ := List.mem_map.mp h
  have gi := mem_groups.mp hix
  have sub : ∀ x ∈ pick g ix, x ∈ g := fun x hx => by
    unfold pick at hx
    obtain ⟨i, hi, rfl⟩ := List.mem_map.mp hx
    rw [getD_at (gi.lt i hi)]
    exact List.getElem_mem _
  refine ⟨⟨?_, fun x hx => hg.lt x (sub x hx)⟩, sub⟩
  unfold pick Asc
  rw [List.pairwise_map]
  refine List.Pairwise.imp_of_mem (fun {a b} ha hb lt => ?_) gi.asc
  rw [getD_at (gi.lt a ha), getD_at (gi.lt b hb)]
  exact List.pairwise_iff_getElem.mp hg.asc a b (gi.lt a ha) (gi.lt b hb) lt
theorem part_of {n : Nat} {g : List Nat} {P : Nat → Bool} (hg : Grp n g) (hP : Sub n P (gp g)) : lst n P ∈ partsM g := by
  unfold partsM
  refine List.mem_map.mpr ⟨lst g.length fun i => P (g.getD i 0), mem_groups.mpr (grp_lst _ _), ?_⟩
  have hm : pick g (lst g.length fun i => P (g.getD i 0)) ∈ partsM g := List.mem_map.mpr ⟨_, mem_groups.mpr (grp_lst _ _), rfl⟩
  have hh := grp_part hg hm
  refine asc_ext hh.1.asc (asc_lst _ _) fun x => ?_
  rw [mem_lst]
  unfold pick
  rw [List.mem_map]
  constructor
  · rintro ⟨i, hi, rfl⟩
    obtain ⟨h1, h2⟩ := mem_lst.mp hi
    exact ⟨by rw [getD_at h1]; exact hg.lt _ (List.getElem_mem _), h2⟩
  · rintro ⟨h1, h2⟩
    obtain ⟨i, hi, rfl⟩ := List.getElem_of_mem (gp_iff.mp (hP x h1 h2))
    exact ⟨i, mem_lst.mpr ⟨hi, by rw [getD_at hi]; exact h2⟩, getD_at hi⟩
theorem nil_part (g : List Nat) : [] ∈ partsM g := by
  unfold partsM
  exact List.mem_map.mpr ⟨[], nil_groups _, rfl⟩
theorem self_part {n : Nat} {g : List Nat} (hg : Grp n g) : g ∈ partsM g := by
  have := part_of (P := gp g) hg fun _ _ z => z
  rw [← hg.eq_lst] at this
  exact this
/-- m is the greatest shortage of a part -/
structure IsMax (jobs : List (List Nat)) (g : List Nat) (m : Int) : Prop where
  got : ∃ T ∈ partsM g, shortM jobs T = m
  all : ∀ T ∈ partsM g, shortM jobs T ≤ m
theorem IsMax.nonneg {jobs : List (List Nat)} {g : List Nat} {m : Int} (h : IsMax jobs g m) : 0 ≤ m := by
  have := h.all [] (nil_part g)
  rw [short_nil] at this
  exact this
/-- what short_part returns -/
structure SpOk (jobs : List (List Nat)) (g r : List Nat) : Prop where
  at_ : r = [] ∨ (r ∈ partsM g ∧ 0 < shortM jobs r)
  all : ∀ T ∈ partsM g, shortM jobs T ≤ shortM jobs r
theorem SpOk.max {jobs : List (List Nat)} {g r : List Nat} (h : SpOk jobs g r) : IsMax jobs g (shortM jobs r) := by
  refine ⟨?_, h.all⟩
  rcases h.at_ with e | ⟨e, _⟩
  · subst e
    exact ⟨[], nil_part g, rfl⟩
  · exact ⟨r, e, rfl⟩
theorem SpOk.part {jobs : List (List Nat)} {g r : List Nat} (h : SpOk jobs g r) : r ∈ partsM g := by
  rcases h.at_ with e | ⟨e, _⟩
  · subst e
    exact nil_part g
  · exact e
theorem short_le {jobs : List (List Nat)} {n : Nat} {g T : List Nat} (hg : Grp n g) (pl : PlG jobs n jobs.length g) (h : T ∈ partsM g) : shortM jobs T ≤ 0 := by
  obtain ⟨hT, hs⟩ := grp_part hg h
  have := pl.hall (gp T) fun x _ z => gp_iff.mpr (hs x (gp_iff.mp z))
  rw [hT.cnt, ← open_len hT.lt] at this
  unfold shortM
  omega
/-- the short part of a placeable group is empty -/
theorem SpOk.none {jobs : List (List Nat)} {n : Nat} {g r : List Nat} (h : SpOk jobs g r) (hg : Grp n g) (c : canF jobs g = true) : r = [] := by
  rcases h.at_ with e | ⟨e, lt⟩
  · exact e
  · have := short_le hg ((can_iff hg).mp c) e
    omega
/-! ### the full strength -/
theorem mem_plM {n : Nat} {jobs : List (List Nat)} {g : List Nat} : g ∈ plM n jobs ↔ Grp n g ∧ canF jobs g = true := by
  unfold plM
  rw [List.mem_filter, mem_groups]
theorem plM_ne (n : Nat) (jobs : List (List Nat)) : plM n jobs ≠ [] := fun e => by
  have : [] ∈ plM n jobs := mem_plM.mpr ⟨Grp.nil n, can_nil jobs⟩
  rw [e] at this
  cases this
def lastG (n : Nat) (jobs : List (List Nat)) : List Nat := ((plM n jobs).getLast?).getD []
def full (n : Nat) (jobs : List (List Nat)) : Nat := (lastG n jobs).length
theorem last_mem (n : Nat) (jobs : List (List Nat)) : lastG n jobs ∈ plM n jobs := by
  unfold lastG
  cases e : (plM n jobs).getLast? with
  | none => exact absurd (List.getLast?_eq_none_iff.mp e) (plM_ne n jobs)
  | some t => exact List.mem_of_getLast? e
theorem full_max {n : Nat} {jobs : List (List Nat)} {g : List Nat} (h : g ∈ plM n jobs) : g.length ≤ full n jobs := by
  unfold full lastG
  cases e : (plM n jobs).getLast? with
  | none => exact absurd (List.getLast?_eq_none_iff.mp e) (plM_ne n jobs)
  | some t =>
    obtain ⟨ys, eq⟩ := List.getLast?_eq_some_iff.mp e
    have hs : (plM n jobs).Pairwise fun a b => a.length ≤ b.length := List.Pairwise.sublist List.filter_sublist (groups_sorted n)
    rw [eq] at hs h
    rcases List.mem_append.mp h with z | z
    · exact (List.pairwise_append.mp hs).2.2 g z t (by simp)
    · rw [List.mem_singleton.mp z]
      exact Nat.le_refl _
/-- whatever truth value is placeable is no larger than the full strength -/
theorem full_pl {n : Nat} {jobs : List (List Nat)} {P : Nat → Bool} (h : Pl (E jobs) n jobs.length P) : cnt n P ≤ full n jobs := by
  rw [← length_lst]
  refine full_max (mem_plM.mpr ⟨grp_lst n P, (can_iff (grp_lst n P)).mpr (h.sub fun x _ z => (mem_lst.mp (gp_iff.mp z)).2)⟩)
theorem asc_rng (n : Nat) : Grp n (List.range n) := ⟨asc_range n, fun _ h => List.mem_range.mp h⟩
theorem full_eq {n : Nat} {jobs : List (List Nat)} {m : Int} (h : IsMax jobs (List.range n) m) : (n : Int) - m = (full n jobs : Int) := by
  have h0 := h.nonneg
  have hr := asc_rng n
  have all : ∀ x, x < n → gp (List.range n) x = true := fun x hx => gp_iff.mpr (List.mem_range.mpr hx)
  have cn : cnt n (gp (List.range n)) = n := by rw [hr.cnt, List.length_range]
  obtain ⟨T, hT, eT⟩ := h.got
  obtain ⟨gT, sT⟩ := grp_part hr hT
  have lack : ∀ T, Sub n T (gp (List.range n)) → cnt n T ≤ cnt jobs.length (nb (E jobs) n T) + m.toNat := fun T hT => by
    have z := h.all (lst n T) (part_of hr hT)
    have e1 := length_lst n T
    have e2 : cnt n (gp (lst n T)) = cnt n T := cnt_congr fun x hx => by
      rw [Bool.eq_iff_iff, gp_iff, mem_lst]
      exact ⟨fun z => z.2, fun z => ⟨hx, z⟩⟩
    have e3 : cnt jobs.length (nb (E jobs) n (gp (lst n T))) = cnt jobs.length (nb (E jobs) n T) := cnt_congr fun j _ => by
      rw [Bool.eq_iff_iff, nb_iff, nb_iff]
      constructor
      · rintro ⟨p, hp, a, b⟩
        exact ⟨p, hp, (mem_lst.mp (gp_iff.mp a)).2, b⟩
      · rintro ⟨p, hp, a, b⟩
        exact ⟨p, hp, gp_iff.mpr (mem_lst.mpr ⟨hp, a⟩), b⟩
    unfold shortM at z
    rw [open_len (fun x hx => (mem_lst.mp hx).1), e3, e1] at z
    omega
  obtain ⟨S, hS, plS, cS⟩ := hall_lack lack
  have f1 := full_pl plS
  rw [cn] at cS
  -- no more than that
  have hl := last_mem n jobs
  obtain ⟨gl, cl⟩ := mem_plM.mp hl
  have z := pl_lack (G := gp (List.range n)) (S := gp (lastG n jobs)) (T := gp T) (fun x hx _ => all x hx) (fun x hx _ => all x hx) ((can_iff gl).mp cl)
  rw [gl.cnt, gT.cnt, cn, ← open_len gT.lt] at z
  unfold shortM at eT
  have : full n jobs = (lastG n jobs).length := rfl
  omega

/-! ### the turned list -/
def turnM (n : Nat) (jobs : List (List Nat)) : List (List Nat) := (List.range n).map fun p => (List.range jobs.length).filter fun j => (jobs.getD j []).contains p
theorem turn_len (n : Nat) (jobs : List (List Nat)) : (turnM n jobs).length = n := by unfold turnM; simp
theorem turn_at {n p : Nat} {jobs : List (List Nat)} (h : p < n) : (turnM n jobs).getD p [] = (List.range jobs.length).filter fun j => (jobs.getD j []).contains p := by
  unfold turnM
  rw [List.getD_eq_getElem?_getD, List.getElem?_map, List.getElem?_range h]
  rfl
theorem E_turn {n p j : Nat} {jobs : List (List Nat)} (hp : p < n) : E (turnM n jobs) j p = true ↔ j < jobs.length ∧ E jobs p j = true := by
  rw [E_iff, turn_at hp, List.mem_filter, List.mem_range]
  rfl
def WF (n : Nat) (jobs : List (List Nat)) : Prop := ∀ g ∈ jobs, Grp n g
theorem wf_turn (n : Nat) (jobs : List (List Nat)) : WF jobs.length (turnM n jobs) := fun g hg => by
  unfold turnM at hg
  obtain ⟨p, _, rfl⟩ := List.mem_map.mp hg
  exact grp_lst _ _
theorem turn_turn {n : Nat} {jobs : List (List Nat)} (h : WF n jobs) : turnM jobs.length (turnM n jobs) = jobs := by
  refine List.ext_getElem? fun j => ?_
  by_cases hj : j < jobs.length
  · have e1 : (turnM jobs.length (turnM n jobs))[j]? = some ((turnM jobs.length (turnM n jobs)).getD j []) := by
      rw [List.getD_eq_getElem?_getD, List.getElem?_eq_getElem (by rw [turn_len]; exact hj)]
      rfl
    rw [e1, turn_at hj, turn_len, List.getElem?_eq_getElem hj]
    have hg := h jobs[j] (List.getElem_mem hj)
    congr 1
    refine asc_ext (List.Pairwise.sublist List.filter_sublist (asc_range n)) hg.asc fun p => ?_
    rw [List.mem_filter, List.mem_range]
    have e2 : jobs.getD j [] = jobs[j] := by rw [List.getD_eq_getElem?_getD, List.getElem?_eq_getElem hj]; rfl
    constructor
    · rintro ⟨h1, h2⟩
      have := (E_turn (jobs := jobs) (j := j) h1).mp h2
      have := E_iff.mp this.2
      rw [e2] at this
      exact this
    · intro hp
      have pn := hg.lt p hp
      refine ⟨pn, (E_turn (jobs := jobs) (j := j) pn).mpr ⟨hj, E_iff.mpr ?_⟩⟩
      rw [e2]
      exact hp
  · rw [List.getElem?_eq_none (by rw [turn_len]; omega), List.getElem?_eq_none (by omega)]

/-! ### matchings as pairs -/
abbrev Prs := List (Nat × Nat)
def aget (M : Prs) (k : Nat) : Option Nat := (M.find? fun kv => decide (kv.1 = k)).map (·.2)
def aput (M : Prs) (k v : Nat) : Prs := if (M.any fun kv => decide (kv.1 = k)) = true then M.map (fun kv => if kv.1 = k then (kv.1, v) else kv) else M ++ [(k, v)]
theorem aget_mem {M : Prs} {k v : Nat} (h : aget M k = some v) : (k, v) ∈ M := by
  unfold aget at h
  obtain ⟨⟨a, b⟩, h1, h2⟩ := Option.map_eq_some_iff.mp h
  have e := List.find?_some h1
  have e1 : a = k := of_decide_eq_true e
  have e2 : b = v := h2
  rw [← e1, ← e2]
  exact List.mem_of_find?_eq_some h1
theorem aget_of {M : Prs} (nd : (M.map (·.1)).Nodup) {k v : Nat} (h : (k, v) ∈ M) : aget M k = some v := by
  cases e : aget M k with
  | none =>
    unfold aget at e
    rw [Option.map_eq_none_iff, List.find?_eq_none] at e
    exact absurd (decide_eq_true rfl) (e (k, v) h)
  | some w =>
    have h2 := aget_mem e
    have : ∀ {M : Prs}, (M.map (·.1)).Nodup → (k, v) ∈ M → (k, w) ∈ M → w = v := by
      intro M
      induction M with
      | nil => intro _ z; cases z
      | cons x r ih =>
        intro nd z1 z2
        rw [List.map_cons, List.nodup_cons] at nd
        rcases List.mem_cons.mp z1 with q1 | q1
        · rcases List.mem_cons.mp z2 with q2 | q2
          · rw [← q1] at q2
            exact (Prod.mk.inj q2).2
          · exact absurd (List.mem_map.mpr ⟨(k, w), q2, by rw [← q1]⟩) nd.1
        · rcases List.mem_cons.mp z2 with q2 | q2
          · exact absurd (List.mem_map.mpr ⟨(k, v), q1, by rw [← q2]⟩) nd.1
          · exact ih nd.2 q1 q2
    rw [this nd h h2]
theorem aget_key {M : Prs} {k : Nat} (h : k ∈ M.map (·.1)) : ∃ v, aget M k = some v := by
  cases e : aget M k with
  | some v => exact ⟨v, rfl⟩
  | none =>
    unfold aget at e
    rw [Option.map_eq_none_iff, List.find?_eq_none] at e
    obtain ⟨x, hx, rfl⟩ := List.mem_map.mp h
    exact absurd (decide_eq_true rfl) (e x hx)
theorem aput_keys {M : Prs} {k v : Nat} : (aput M k v).map (·.1) = if k ∈ M.map (·.1) then M.map (·.1) else M.map (·.1) ++ [k] := by
  unfold aput
  have e : ((M.any fun kv => decide (kv.1 = k)) = true) ↔ k ∈ M.map (·.1) := by
    rw [List.any_eq_true, List.mem_map]
    constructor
    · rintro ⟨x, hx, d⟩
      exact ⟨x, hx, of_decide_eq_true d⟩
    · rintro ⟨x, hx, d⟩
      exact ⟨x, hx, decide_eq_true d⟩
  by_cases h : k ∈ M.map (·.1)
  · rw [if_pos (e.mpr h), if_pos h, List.map_map]
    refine List.map_congr_left fun x _ => ?_
    show (if x.1 = k then (x.1, v) else x).1 = x.1
    split <;> rfl
  · rw [if_neg (fun z => h (e.mp z)), if_neg h, List.map_append]
    rfl
theorem aput_nodup {M : Prs} {k v : Nat} (h : (M.map (·.1)).Nodup) : ((aput M k v).map (·.1)).Nodup := by
  rw [aput_keys]
  split
  · exact h
  · rename_i hk
    unfold List.Nodup at *
    refine List.pairwise_append.mpr ⟨h, List.pairwise_singleton _ _, fun a ha b hb e => ?_⟩
    rw [List.mem_singleton.mp hb] at e
    rw [e] at ha
    exact hk ha
theorem mem_aput {M : Prs} {k v a b : Nat} : (a, b) ∈ aput M k v ↔ (a = k ∧ b = v) ∨ (a ≠ k ∧ (a, b) ∈ M) := by
  unfold aput
  split
  · rename_i h
    rw [List.mem_map]
    constructor
    · rintro ⟨x, hx, e⟩
      by_cases z : x.1 = k
      · rw [if_pos z] at e
        obtain ⟨e1, e2⟩ := Prod.mk.inj e
        exact .inl ⟨by rw [← e1]; exact z, e2.symm⟩
      · rw [if_neg z] at e
        subst e
        exact .inr ⟨z, hx⟩
    · rintro (⟨rfl, rfl⟩ | ⟨ne, hm⟩)
      · obtain ⟨x, hx, d⟩ := List.any_eq_true.mp h
        have d : x.1 = a := of_decide_eq_true d
        exact ⟨x, hx, by rw [if_pos d, d]⟩
      · exact ⟨(a, b), hm, if_neg ne⟩
  · rename_i h
    rw [List.mem_append, List.mem_singleton]
    constructor
    · rintro (z | z)
      · refine .inr ⟨fun e => h ?_, z⟩
        subst e
        exact List.any_eq_true.mpr ⟨(a, b), z, decide_eq_true rfl⟩
      · obtain ⟨e1, e2⟩ := Prod.mk.inj z
        exact .inl ⟨e1, e2⟩
    · rintro (⟨rfl, rfl⟩ | ⟨ne, hm⟩)
      · exact .inr rfl
      · exact .inl hm
/-- different people at different jobs that they can do -/
structure Mt (jobs : List (List Nat)) (n : Nat) (M : Prs) : Prop where
  ok : ∀ p j, (p, j) ∈ M → p < n ∧ j < jobs.length ∧ E jobs p j = true
  key : (M.map (·.1)).Nodup
  inj : ∀ p q j, (p, j) ∈ M → (q, j) ∈ M → p = q
theorem Mt.val {jobs : List (List Nat)} {n : Nat} : ∀ {M : Prs}, Mt jobs n M → (M.map (·.2)).Nodup
  | [], _ => List.nodup_nil
  | x :: r, h => by
    have hk := h.key
    rw [List.map_cons, List.nodup_cons] at hk ⊢
    refine ⟨fun z => ?_, Mt.val (M := r) ⟨fun p j hm => h.ok p j (by simp [hm]), hk.2, fun p q j a b => h.inj p q j (by simp [a]) (by simp [b])⟩⟩
    obtain ⟨y, hy, e⟩ := List.mem_map.mp z
    have := h.inj x.1 y.1 x.2 (by simp) (by rw [← e]; simp [hy])
    exact hk.1 (List.mem_map.mpr ⟨y, hy, this.symm⟩)
theorem nodup_le {α : Type} [DecidableEq α] : ∀ {a b : List α}, a.Nodup → (∀ x ∈ a, x ∈ b) → a.length ≤ b.length
  | [], _, _, _ => Nat.zero_le _
  | x :: a, b, hd, h => by
    obtain ⟨h1, h2⟩ := List.nodup_cons.mp hd
    have hx := h x (by simp)
    have := nodup_le (b := b.erase x) h2 fun y hy => (List.mem_erase_of_ne (fun e : y = x => h1 (by rw [← e]; exact hy))).mpr (h y (by simp [hy]))
    rw [List.length_erase_of_mem hx] at this
    have : 0 < b.length := List.length_pos_of_mem hx
    rw [List.length_cons]
    omega
theorem nodup_eq {α : Type} [DecidableEq α] {a b : List α} (hd : a.Nodup) (h : ∀ x ∈ a, x ∈ b) (hl : b.length ≤ a.length) : ∀ x ∈ b, x ∈ a := by
  intro x hx
  refine Classical.byContradiction fun ne => ?_
  have := nodup_le (a := x :: a) (b := b) (List.nodup_cons.mpr ⟨ne, hd⟩) fun y hy => by
    rcases List.mem_cons.mp hy with e | e
    · rw [e]; exact hx
    · exact h y e
  rw [List.length_cons] at this
  omega
theorem Mt.pl {jobs : List (List Nat)} {n : Nat} {M : Prs} (h : Mt jobs n M) {P : Nat → Bool} (hP : ∀ p, p < n → P p = true → p ∈ M.map (·.1)) : Pl (E jobs) n jobs.length P := by
  have at_ : ∀ p, p < n → P p = true → (p, (aget M p).getD 0) ∈ M := fun p hp gp => by
    obtain ⟨v, e⟩ := aget_key (hP p hp gp)
    rw [e]
    exact aget_mem e
  exact ⟨fun p => (aget M p).getD 0, fun p hp gp => (h.ok _ _ (at_ p hp gp)).2, fun p q hp hq gp gq e => by
    have a := at_ p hp gp
    have b := at_ q hq gq
    have e : (aget M p).getD 0 = (aget M q).getD 0 := e
    rw [e] at a
    exact h.inj p q _ a b⟩
theorem Mt.le {jobs : List (List Nat)} {n : Nat} {M : Prs} (h : Mt jobs n M) : M.length ≤ full n jobs := by
  have := full_pl (h.pl (P := gp (M.map (·.1))) fun p _ z => gp_iff.mp z)
  rw [cnt_gp h.key (fun x hx => by
    obtain ⟨y, hy, rfl⟩ := List.mem_map.mp hx
    exact (h.ok y.1 y.2 hy).1), List.length_map] at this
  exact this
/-- a deal: jobs for the members of g in their order -/
structure Deal (jobs : List (List Nat)) (g d : List Nat) : Prop where
  len : d.length = g.length
  nd : d.Nodup
  ok : ∀ (i p j : Nat), g[i]? = some p → d[i]? = some j → j < jobs.length ∧ E jobs p j = true
theorem mem_zip_at {a b : List Nat} {x y : Nat} (h : (x, y) ∈ a.zip b) : ∃ i : Nat, a[i]? = some x ∧ b[i]? = some y := by
  obtain ⟨i, hi, e⟩ := List.getElem_of_mem h
  rw [List.getElem_zip] at e
  obtain ⟨e1, e2⟩ := Prod.mk.inj e
  rw [List.length_zip] at hi
  exact ⟨i, by rw [← e1]; exact List.getElem?_eq_getElem (by omega), by rw [← e2]; exact List.getElem?_eq_getElem (by omega)⟩
theorem nodup_ixN {l : List Nat} (hN : l.Nodup) {i j x : Nat} (a : l[i]? = some x) (b : l[j]? = some x) : i = j := by
  obtain ⟨h1, e1⟩ := List.getElem?_eq_some_iff.mp a
  obtain ⟨h2, e2⟩ := List.getElem?_eq_some_iff.mp b
  exact (List.getElem_inj hN).mp (e1.trans e2.symm)
theorem Deal.mt {jobs : List (List Nat)} {n : Nat} {g d : List Nat} (h : Deal jobs g d) (hg : Grp n g) : Mt jobs n (g.zip d) where
  ok := fun p j hm => by
    obtain ⟨i, h1, h2⟩ := mem_zip_at hm
    exact ⟨hg.lt p (List.mem_of_getElem? h1), h.ok i p j h1 h2⟩
  key := by rw [List.map_fst_zip (Nat.le_of_eq h.len.symm)]; exact hg.asc.nodup
  inj := fun p q j a b => by
    obtain ⟨i, h1, h2⟩ := mem_zip_at a
    obtain ⟨k, h3, h4⟩ := mem_zip_at b
    have := nodup_ixN h.nd h2 h4
    subst this
    rw [h1] at h3
    exact Option.some.inj h3
theorem deal_of {jobs : List (List Nat)} {n : Nat} {g : List Nat} (hg : Grp n g) (h : PlG jobs n jobs.length g) : ∃ d, Deal jobs g d := by
  obtain ⟨f, h1, h2⟩ := h
  refine ⟨g.map f, by simp, ?_, fun i p j hp hj => ?_⟩
  · unfold List.Nodup
    rw [List.pairwise_map]
    exact List.Pairwise.imp_of_mem (fun {a b} ha hb lt e => by
      have := h2 a b (hg.lt a ha) (hg.lt b hb) (gp_iff.mpr ha) (gp_iff.mpr hb) e
      omega) hg.asc
  · rw [List.getElem?_map, hp] at hj
    have : f p = j := Option.some.inj hj
    rw [← this]
    exact h1 p (hg.lt p (List.mem_of_getElem? hp)) (gp_iff.mpr (List.mem_of_getElem? hp))

/-! ### both: the jobs of wanted are filled while the group works -/
/-- F: who fills the wanted jobs -/
structure FlOk (jobs : List (List Nat)) (n : Nat) (F : Prs) (b : List Nat) : Prop where
  keys : F.map (·.1) = b
  nd : b.Nodup
  ok : ∀ j p, (j, p) ∈ F → p < n ∧ j < jobs.length ∧ E jobs p j = true
  inj : ∀ i j p, (i, p) ∈ F → (j, p) ∈ F → i = j
structure HInv (jobs : List (List Nat)) (n : Nat) (g b : List Nat) (held : Prs) (cur : Option Nat) (rem : List Nat) : Prop where
  mt : Mt jobs n held
  grp : ∀ p ∈ g, p ∈ held.map (·.1)
  want : ∀ w ∈ b, w ∈ held.map (·.2) ∨ cur = some w ∨ w ∈ rem
  hole : ∀ i, cur = some i → i ∉ held.map (·.2) ∧ i ∉ rem
  rest : ∀ w ∈ rem, w ∉ held.map (·.2)
  rnd : rem.Nodup
theorem HInv.start {jobs : List (List Nat)} {n : Nat} {g b : List Nat} {held : Prs} {w : Nat} {rem : List Nat} (h : HInv jobs n g b held none (w :: rem)) : HInv jobs n g b held (some w) rem where
  mt := h.mt
  grp := h.grp
  want := fun x hx => by
    rcases h.want x hx with z | z | z
    · exact .inl z
    · cases z
    · rcases List.mem_cons.mp z with e | e
      · exact .inr (.inl (by rw [e]))
      · exact .inr (.inr e)
  hole := fun i e => by
    have e : w = i := Option.some.inj e
    subst e
    exact ⟨h.rest w (by simp), (List.nodup_cons.mp h.rnd).1⟩
  rest := fun x hx => h.rest x (by simp [hx])
  rnd := (List.nodup_cons.mp h.rnd).2
theorem HInv.stop {jobs : List (List Nat)} {n : Nat} {g b : List Nat} {held : Prs} {cur : Option Nat} {rem : List Nat} (h : HInv jobs n g b held cur rem) (hc : ∀ i, cur = some i → i ∉ b) : HInv jobs n g b held none rem where
  mt := h.mt
  grp := h.grp
  want := fun x hx => by
    rcases h.want x hx with z | z | z
    · exact .inl z
    · exact absurd hx (hc x z)
    · exact .inr (.inr z)
  hole := fun i e => by cases e
  rest := h.rest
  rnd := h.rnd
theorem mem_vals {M : Prs} {j : Nat} : j ∈ M.map (·.2) ↔ ∃ p, (p, j) ∈ M := by
  rw [List.mem_map]
  constructor
  · rintro ⟨⟨a, b⟩, h, e⟩
    have e : b = j := e
    exact ⟨a, e ▸ h⟩
  · rintro ⟨p, h⟩
    exact ⟨(p, j), h, rfl⟩
theorem mem_keys {M : Prs} {p : Nat} : p ∈ M.map (·.1) ↔ ∃ j, (p, j) ∈ M := by
  rw [List.mem_map]
  constructor
  · rintro ⟨⟨a, b⟩, h, e⟩
    have e : a = p := e
    exact ⟨b, e ▸ h⟩
  · rintro ⟨j, h⟩
    exact ⟨(p, j), h, rfl⟩
theorem HInv.step {jobs : List (List Nat)} {n : Nat} {g b : List Nat} {F held : Prs} {i p : Nat} {rem : List Nat} (hF : FlOk jobs n F b) (h : HInv jobs n g b held (some i) rem) (hp : aget F i = some p) :
    HInv jobs n g b (aput held p i) (aget held p) rem := by
  have hm := aget_mem hp
  obtain ⟨hi, hir⟩ := h.hole i rfl
  refine ⟨⟨fun q j hq => ?_, aput_nodup h.mt.key, fun q r j hq hr => ?_⟩, fun q hq => ?_, fun w hw => ?_, fun l hl => ?_, fun w hw z => ?_, h.rnd⟩
  · rcases mem_aput.mp hq with ⟨rfl, rfl⟩ | ⟨_, z⟩
    · exact hF.ok _ _ hm
    · exact h.mt.ok q j z
  · rcases mem_aput.mp hq with ⟨rfl, rfl⟩ | ⟨n1, z1⟩
    · rcases mem_aput.mp hr with ⟨rfl, _⟩ | ⟨_, z2⟩
      · rfl
      · exact absurd (mem_vals.mpr ⟨r, z2⟩) hi
    · rcases mem_aput.mp hr with ⟨rfl, rfl⟩ | ⟨_, z2⟩
      · exact absurd (mem_vals.mpr ⟨q, z1⟩) hi
      · exact h.mt.inj q r j z1 z2
  · obtain ⟨j, hj⟩ := mem_keys.mp (h.grp q hq)
    by_cases e : q = p
    · exact mem_keys.mpr ⟨i, mem_aput.mpr (.inl ⟨e, rfl⟩)⟩
    · exact mem_keys.mpr ⟨j, mem_aput.mpr (.inr ⟨e, hj⟩)⟩
  · rcases h.want w hw with z | z | z
    · obtain ⟨q, hq⟩ := mem_vals.mp z
      by_cases e : q = p
      · subst e
        exact .inr (.inl (aget_of h.mt.key hq))
      · exact .inl (mem_vals.mpr ⟨q, mem_aput.mpr (.inr ⟨e, hq⟩)⟩)
    · have z : i = w := Option.some.inj z
      subst z
      exact .inl (mem_vals.mpr ⟨p, mem_aput.mpr (.inl ⟨rfl, rfl⟩)⟩)
    · exact .inr (.inr z)
  · have hl2 := aget_mem hl
    refine ⟨fun z => ?_, fun z => h.rest l z (mem_vals.mpr ⟨p, hl2⟩)⟩
    obtain ⟨q, hq⟩ := mem_vals.mp z
    rcases mem_aput.mp hq with ⟨_, rfl⟩ | ⟨ne, z2⟩
    · exact hi (mem_vals.mpr ⟨p, hl2⟩)
    · exact ne (h.mt.inj q p l z2 hl2)
  · obtain ⟨q, hq⟩ := mem_vals.mp z
    rcases mem_aput.mp hq with ⟨_, rfl⟩ | ⟨_, z2⟩
    · exact hir hw
    · exact h.rest w hw (mem_vals.mpr ⟨q, z2⟩)
/-- how many wanted jobs are held by their filler: grows with each step -/
def fixed (F held : Prs) : Nat := F.countP fun x => decide (aget held x.2 = some x.1)
theorem aget_aput {M : Prs} (nd : (M.map (·.1)).Nodup) {k v a : Nat} : aget (aput M k v) a = if a = k then some v else aget M a := by
  by_cases e : a = k
  · subst e
    rw [if_pos rfl]
    exact aget_of (aput_nodup nd) (mem_aput.mpr (.inl ⟨rfl, rfl⟩))
  · rw [if_neg e]
    cases q : aget M a with
    | some w => exact aget_of (aput_nodup nd) (mem_aput.mpr (.inr ⟨e, aget_mem q⟩))
    | none =>
      cases q2 : aget (aput M k v) a with
      | none => rfl
      | some w =>
        rcases mem_aput.mp (aget_mem q2) with ⟨z, _⟩ | ⟨_, z⟩
        · exact absurd z e
        · rw [aget_of nd z] at q
          cases q
theorem countP_lt {α : Type} {P Q : α → Bool} : ∀ {l : List α}, (∀ x ∈ l, P x = true → Q x = true) → (∃ x ∈ l, P x = false ∧ Q x = true) → l.countP P < l.countP Q
  | [], _, h => by obtain ⟨_, z, _⟩ := h; cases z
  | a :: l, h, hx => by
    rw [List.countP_cons, List.countP_cons]
    obtain ⟨x, hm, p1, q1⟩ := hx
    have hle : l.countP P ≤ l.countP Q := List.countP_mono_left fun y hy => h y (by simp [hy])
    rcases List.mem_cons.mp hm with e | e
    · subst e
      rw [p1, q1, if_neg Bool.false_ne_true, if_pos rfl]
      omega
    · have ih := countP_lt (l := l) (fun y hy => h y (by simp [hy])) ⟨x, e, p1, q1⟩
      have := h a (by simp)
      by_cases z : P a = true
      · rw [if_pos z, if_pos (this z)]
        omega
      · rw [if_neg z]
        omega
theorem fixed_lt {jobs : List (List Nat)} {n : Nat} {g b : List Nat} {F held : Prs} {i p : Nat} {rem : List Nat} (hF : FlOk jobs n F b) (h : HInv jobs n g b held (some i) rem) (hp : aget F i = some p) :
    fixed F held < fixed F (aput held p i) := by
  have hm := aget_mem hp
  obtain ⟨hi, _⟩ := h.hole i rfl
  refine countP_lt (fun x hx e => ?_) ⟨(i, p), hm, ?_, ?_⟩
  · have e : aget held x.2 = some x.1 := of_decide_eq_true e
    refine decide_eq_true ?_
    rw [aget_aput h.mt.key]
    by_cases z : x.2 = p
    · exfalso
      have : x.1 = i := hF.inj x.1 i p (by rw [← z]; exact hx) hm
      rw [this] at e
      exact hi (mem_vals.mpr ⟨_, aget_mem e⟩)
    · rw [if_neg z]
      exact e
  · refine decide_eq_false fun z => hi (mem_vals.mpr ⟨_, aget_mem z⟩)
  · refine decide_eq_true ?_
    rw [aget_aput h.mt.key, if_pos rfl]
theorem fixed_le (F held : Prs) : fixed F held ≤ F.length := List.countP_le_length
theorem aget_no {M : Prs} {k : Nat} (h : aget M k = none) : k ∉ M.map (·.1) := fun z => by
  obtain ⟨v, e⟩ := aget_key z
  rw [h] at e
  cases e
/-- it comes to an end -/
theorem HInv.run {jobs : List (List Nat)} {n : Nat} {g b : List Nat} {F : Prs} (hF : FlOk jobs n F b) : ∀ (m : Nat) (held : Prs) (cur : Option Nat) (rem : List Nat), HInv jobs n g b held cur rem → F.length - fixed F held ≤ m → ∃ held', HInv jobs n g b held' none rem := by
  intro m
  induction m with
  | zero =>
    intro held cur rem h hm
    refine ⟨held, h.stop fun i e z => ?_⟩
    subst e
    cases q : aget F i with
    | none => exact aget_no q (by rw [hF.keys]; exact z)
    | some p =>
      have h1 := fixed_lt hF h q
      have h2 := fixed_le F (aput held p i)
      omega
  | succ m ih =>
    intro held cur rem h hm
    cases cur with
    | none => exact ⟨held, h⟩
    | some i =>
      cases q : aget F i with
      | none => exact ⟨held, h.stop fun j e z => aget_no q (by rw [hF.keys, Option.some.inj e]; exact z)⟩
      | some p =>
        have h1 := fixed_lt hF h q
        have h2 := fixed_le F (aput held p i)
        exact ih _ _ _ (h.step hF q) (by omega)
theorem HInv.runs {jobs : List (List Nat)} {n : Nat} {g b : List Nat} {F : Prs} (hF : FlOk jobs n F b) : ∀ (rem : List Nat) (held : Prs), HInv jobs n g b held none rem → ∃ held', HInv jobs n g b held' none []
  | [], held, h => ⟨held, h⟩
  | w :: rem, held, h => by
    obtain ⟨held', h'⟩ := HInv.run hF _ held (some w) rem h.start (Nat.le_refl _)
    exact HInv.runs hF rem held' h'
theorem HInv.init {jobs : List (List Nat)} {n : Nat} {g b : List Nat} {M : Prs} (hM : Mt jobs n M) (hg : ∀ p ∈ g, p ∈ M.map (·.1)) (hb : b.Nodup) : HInv jobs n g b M none (b.filter fun j => !(M.map (·.2)).contains j) where
  mt := hM
  grp := hg
  want := fun w hw => by
    by_cases z : w ∈ M.map (·.2)
    · exact .inl z
    · exact .inr (.inr (List.mem_filter.mpr ⟨hw, by simpa using z⟩))
  hole := fun i e => by cases e
  rest := fun w hw => by simpa using (List.mem_filter.mp hw).2
  rnd := List.Pairwise.sublist List.filter_sublist hb
/-- fillers from a deal in the turned list -/
theorem fl_of {jobs : List (List Nat)} {n : Nat} {b e : List Nat} (hb : Grp jobs.length b) (h : Deal (turnM n jobs) b e) : FlOk jobs n (b.zip e) b where
  keys := List.map_fst_zip (Nat.le_of_eq h.len.symm)
  nd := hb.asc.nodup
  ok := fun j p hm => by
    obtain ⟨i, h1, h2⟩ := mem_zip_at hm
    obtain ⟨a, c⟩ := h.ok i j p h1 h2
    rw [turn_len] at a
    exact ⟨a, (E_turn a).mp c⟩
  inj := fun i j p a c => by
    obtain ⟨k, h1, h2⟩ := mem_zip_at a
    obtain ⟨l, h3, h4⟩ := mem_zip_at c
    have := nodup_ixN h.nd h2 h4
    subst this
    rw [h1] at h3
    exact Option.some.inj h3
/-- a group and a set of jobs, each placeable in its list: some matching has all of both -/
theorem both_ex {jobs : List (List Nat)} {n : Nat} {g b : List Nat} (hg : Grp n g) (hb : Grp jobs.length b) (cg : canF jobs g = true) (cb : canF (turnM n jobs) b = true) :
    ∃ M, Mt jobs n M ∧ (∀ p ∈ g, p ∈ M.map (·.1)) ∧ ∀ w ∈ b, w ∈ M.map (·.2) := by
  obtain ⟨d, hd⟩ := deal_of hg ((can_iff hg).mp cg)
  obtain ⟨e, he⟩ := deal_of hb ((can_iff hb).mp cb)
  have hM := hd.mt hg
  obtain ⟨held, h⟩ := HInv.runs (g := g) (fl_of hb he) _ _ (HInv.init hM (fun p hp => by rw [List.map_fst_zip (Nat.le_of_eq hd.len.symm)]; exact hp) hb.asc.nodup)
  refine ⟨held, h.mt, h.grp, fun w hw => ?_⟩
  rcases h.want w hw with z | z | z
  · exact z
  · cases z
  · cases z
/-! ### both full strengths are one -/
def flip (M : Prs) : Prs := M.map fun x => (x.2, x.1)
theorem mem_flip {M : Prs} {a b : Nat} : (a, b) ∈ flip M ↔ (b, a) ∈ M := by
  unfold flip
  rw [List.mem_map]
  constructor
  · rintro ⟨⟨x, y⟩, h, e⟩
    obtain ⟨e1, e2⟩ := Prod.mk.inj e
    subst e1 e2
    exact h
  · intro h
    exact ⟨(b, a), h, rfl⟩
theorem Mt.flip {jobs : List (List Nat)} {n : Nat} {M : Prs} (h : Mt jobs n M) : Mt (turnM n jobs) jobs.length (CL.flip M) where
  ok := fun j p hm => by
    obtain ⟨a, b, c⟩ := h.ok p j (mem_flip.mp hm)
    rw [turn_len]
    exact ⟨b, a, (E_turn a).mpr ⟨b, c⟩⟩
  key := by
    have e : (CL.flip M).map (·.1) = M.map (·.2) := by unfold CL.flip; rw [List.map_map]; rfl
    rw [e]
    exact h.val
  inj := fun i j p a b => by
    have a := mem_flip.mp a
    have b := mem_flip.mp b
    have e1 := aget_of h.key a
    rw [aget_of h.key b] at e1
    exact (Option.some.inj e1).symm
theorem Mt.unflip {jobs : List (List Nat)} {n : Nat} {M : Prs} (h : Mt (turnM n jobs) jobs.length M) : Mt jobs n (CL.flip M) where
  ok := fun p j hm => by
    obtain ⟨a, b, c⟩ := h.ok j p (mem_flip.mp hm)
    rw [turn_len] at b
    exact ⟨b, a, ((E_turn b).mp c).2⟩
  key := by
    have e : (CL.flip M).map (·.1) = M.map (·.2) := by unfold CL.flip; rw [List.map_map]; rfl
    rw [e]
    exact h.val
  inj := fun i j p a b => by
    have a := mem_flip.mp a
    have b := mem_flip.mp b
    have e1 := aget_of h.key a
    rw [aget_of h.key b] at e1
    exact (Option.some.inj e1).symm
theorem flip_len (M : Prs) : (flip M).length = M.length := by unfold flip; simp
theorem full_turn (n : Nat) (jobs : List (List Nat)) : full jobs.length (turnM n jobs) = full n jobs := by
  have key : ∀ (n : Nat) (jobs : List (List Nat)), ∃ M, Mt jobs n M ∧ M.length = full n jobs := fun n jobs => by
    obtain ⟨gl, cl⟩ := mem_plM.mp (last_mem n jobs)
    obtain ⟨d, hd⟩ := deal_of gl ((can_iff gl).mp cl)
    refine ⟨_, hd.mt gl, ?_⟩
    rw [List.length_zip, hd.len, Nat.min_self]
    rfl
  obtain ⟨M, h1, e1⟩ := key n jobs
  obtain ⟨N, h2, e2⟩ := key jobs.length (turnM n jobs)
  have a := h1.flip.le
  have b := h2.unflip.le
  rw [flip_len] at a b
  omega
/-- a crew and a least set of jobs fill one another -/
theorem both_full {jobs : List (List Nat)} {n : Nat} {g b : List Nat} {M : Prs} (hg : Grp n g) (hb : Grp jobs.length b) (lg : g.length = full n jobs) (lb : b.length = full n jobs) (hM : Mt jobs n M) (h1 : ∀ p ∈ g, p ∈ M.map (·.1)) (h2 : ∀ w ∈ b, w ∈ M.map (·.2)) :
    (∀ p, p ∈ M.map (·.1) ↔ p ∈ g) ∧ ∀ w, w ∈ M.map (·.2) ↔ w ∈ b := by
  have le := hM.le
  refine ⟨fun p => ⟨fun z => nodup_eq hg.asc.nodup h1 (by rw [List.length_map]; omega) p z, h1 p⟩, fun w => ⟨fun z => nodup_eq hb.asc.nodup h2 (by rw [List.length_map]; omega) w z, h2 w⟩⟩

/-! ### some of the jobs -/
def pickJ (jobs : List (List Nat)) (s : List Nat) : List (List Nat) := s.map fun j => jobs.getD j []
theorem E_pick {jobs : List (List Nat)} {s : List Nat} {p k : Nat} (hk : k < s.length) : E (pickJ jobs s) p k = E jobs p (s.getD k 0) := by
  unfold E pickJ
  rw [List.getD_eq_getElem?_getD, List.getElem?_map, List.getElem?_eq_getElem hk, getD_at hk]
  rfl
/-- placeable with the jobs of s alone: a matching within s -/
theorem pick_iff {jobs : List (List Nat)} {n : Nat} {s g : List Nat} (hs : Grp jobs.length s) (hg : Grp n g) : canF (pickJ jobs s) g = true ↔ ∃ M, Mt jobs n M ∧ M.map (·.1) = g ∧ ∀ w ∈ M.map (·.2), w ∈ s := by
  have lp : (pickJ jobs s).length = s.length := by unfold pickJ; simp
  constructor
  · intro c
    obtain ⟨d, hd⟩ := deal_of hg ((can_iff hg).mp c)
    have lt : ∀ j ∈ d, j < s.length := fun j hj => by
      obtain ⟨i, hi, rfl⟩ := List.getElem_of_mem hj
      have gi : i < g.length := by rw [← hd.len]; exact hi
      have := (hd.ok i g[i] d[i] (List.getElem?_eq_getElem gi) (List.getElem?_eq_getElem hi)).1
      rw [lp] at this
      exact this
    have h2 : Deal jobs g (pick s d) := by
      refine ⟨by unfold pick; rw [List.length_map, hd.len], ?_, fun i p j hp hj => ?_⟩
      · unfold pick List.Nodup
        rw [List.pairwise_map]
        refine List.Pairwise.imp_of_mem (fun {a b} ha hb ne e => ?_) hd.nd
        rw [getD_at (lt a ha), getD_at (lt b hb)] at e
        exact ne ((List.getElem_inj hs.asc.nodup).mp e)
      · unfold pick at hj
        rw [List.getElem?_map] at hj
        obtain ⟨k, hk, e⟩ := Option.map_eq_some_iff.mp hj
        obtain ⟨a, c⟩ := hd.ok i p k hp hk
        rw [lp] at a
        rw [E_pick a, e] at c
        rw [getD_at a] at e
        exact ⟨by rw [← e]; exact hs.lt _ (List.getElem_mem _), c⟩
    refine ⟨g.zip (pick s d), h2.mt hg, List.map_fst_zip (Nat.le_of_eq h2.len.symm), fun w hw => ?_⟩
    rw [List.map_snd_zip (Nat.le_of_eq h2.len)] at hw
    unfold pick at hw
    obtain ⟨k, hk, rfl⟩ := List.mem_map.mp hw
    rw [getD_at (lt k hk)]
    exact List.getElem_mem _
  · rintro ⟨M, hM, hk, hv⟩
    refine (can_iff hg).mpr ?_
    have at_ : ∀ p, gp g p = true → (p, (aget M p).getD 0) ∈ M := fun p gp => by
      obtain ⟨v, e⟩ := aget_key (M := M) (k := p) (by rw [hk]; exact gp_iff.mp gp)
      rw [e]
      exact aget_mem e
    have ix : ∀ p, gp g p = true → s.idxOf ((aget M p).getD 0) < s.length := fun p gp => List.idxOf_lt_length_of_mem (hv _ (mem_vals.mpr ⟨p, at_ p gp⟩))
    have back : ∀ p, gp g p = true → s.getD (s.idxOf ((aget M p).getD 0)) 0 = (aget M p).getD 0 := fun p gp => by
      rw [getD_at (ix p gp)]
      exact List.getElem_idxOf (ix p gp)
    refine ⟨fun p => s.idxOf ((aget M p).getD 0), fun p hp gp => ⟨by rw [lp]; exact ix p gp, ?_⟩, fun p q hp hq gp gq e => ?_⟩
    · show E (pickJ jobs s) p (s.idxOf ((aget M p).getD 0)) = true
      rw [E_pick (ix p gp), back p gp]
      exact (hM.ok _ _ (at_ p gp)).2.2
    · have e : s.idxOf ((aget M p).getD 0) = s.idxOf ((aget M q).getD 0) := e
      have z := back p gp
      rw [e, back q gq] at z
      have a := at_ p gp
      rw [← z] at a
      exact hM.inj p q _ a (at_ q gq)
/-- the least sets of jobs that can be filled by as many -/
def setsM (n : Nat) (jobs : List (List Nat)) : List (List Nat) := (plM n jobs).filter fun g => decide (g.length = full n jobs)
theorem mem_sets {n : Nat} {jobs : List (List Nat)} {g : List Nat} : g ∈ setsM n jobs ↔ Grp n g ∧ canF jobs g = true ∧ g.length = full n jobs := by
  unfold setsM
  rw [List.mem_filter, mem_plM, decide_eq_true_iff]
  exact ⟨fun h => ⟨h.1.1, h.1.2, h.2⟩, fun h => ⟨⟨h.1, h.2.1⟩, h.2.2⟩⟩
theorem pick_all {jobs : List (List Nat)} {n : Nat} {g : List Nat} (hg : Grp n g) : canF jobs g = true ↔ ∃ M, Mt jobs n M ∧ M.map (·.1) = g := by
  constructor
  · intro c
    obtain ⟨d, hd⟩ := deal_of hg ((can_iff hg).mp c)
    exact ⟨_, hd.mt hg, List.map_fst_zip (Nat.le_of_eq hd.len.symm)⟩
  · rintro ⟨M, hM, hk⟩
    exact (can_iff hg).mpr (hM.pl fun p _ z => by rw [hk]; exact gp_iff.mp z)
/-- enough: if and only if a least set is within -/
theorem enough {jobs : List (List Nat)} {n : Nat} {s : List Nat} (hs : Grp jobs.length s) : plM n (pickJ jobs s) = plM n jobs ↔ ∃ b ∈ setsM jobs.length (turnM n jobs), ∀ w ∈ b, w ∈ s := by
  constructor
  · intro e
    obtain ⟨gl, cl⟩ := mem_plM.mp (last_mem n jobs)
    have hm : lastG n jobs ∈ plM n (pickJ jobs s) := by rw [e]; exact last_mem n jobs
    obtain ⟨M, hM, hk, hv⟩ := (pick_iff hs gl).mp (mem_plM.mp hm).2
    have gb : Grp jobs.length (lst jobs.length (gp (M.map (·.2)))) := grp_lst _ _
    have hlt : ∀ w ∈ M.map (·.2), w < jobs.length := fun w hw => by
      obtain ⟨p, hp⟩ := mem_vals.mp hw
      exact (hM.ok p w hp).2.1
    refine ⟨lst jobs.length (gp (M.map (·.2))), mem_sets.mpr ⟨gb, ?_, ?_⟩, fun w hw => hv w (gp_iff.mp (mem_lst.mp hw).2)⟩
    · refine (can_iff gb).mpr (hM.flip.pl fun j _ hj => ?_)
      obtain ⟨p, hp⟩ := mem_vals.mp (gp_iff.mp (mem_lst.mp (gp_iff.mp hj)).2)
      exact mem_keys.mpr ⟨p, mem_flip.mpr hp⟩
    · rw [length_lst, cnt_gp hM.val hlt, List.length_map, full_turn]
      have := congrArg List.length hk
      rw [List.length_map] at this
      rw [this]
      rfl
  · rintro ⟨b, hb, hbs⟩
    obtain ⟨gb, cb, lb⟩ := mem_sets.mp hb
    rw [full_turn] at lb
    unfold plM
    refine List.filter_congr fun g hg => ?_
    have hg := mem_groups.mp hg
    rw [Bool.eq_iff_iff, pick_iff hs hg, pick_all hg]
    constructor
    · rintro ⟨M, hM, hk, _⟩
      exact ⟨M, hM, hk⟩
    · intro h
      obtain ⟨M, hM, h1, h2⟩ := both_ex hg gb ((pick_all hg).mpr h) cb
      have hv : ∀ w ∈ M.map (·.2), w ∈ b := fun w hw => nodup_eq gb.asc.nodup h2 (by
        have := hM.le
        rw [List.length_map]
        omega) w hw
      have at_ : ∀ p ∈ g, (p, (aget M p).getD 0) ∈ M := fun p hp => by
        obtain ⟨v, e⟩ := aget_key (h1 p hp)
        rw [e]
        exact aget_mem e
      refine ⟨g.map fun p => (p, (aget M p).getD 0), ⟨fun p j hm => ?_, ?_, fun p q j a c => ?_⟩, ?_, fun w hw => ?_⟩
      · obtain ⟨x, hx, e⟩ := List.mem_map.mp hm
        obtain ⟨e1, e2⟩ := Prod.mk.inj e
        rw [← e1, ← e2]
        exact hM.ok _ _ (at_ x hx)
      · rw [List.map_map]
        show (g.map fun p => p).Nodup
        rw [List.map_id']
        exact hg.asc.nodup
      · obtain ⟨x, hx, e⟩ := List.mem_map.mp a
        obtain ⟨y, hy, e'⟩ := List.mem_map.mp c
        obtain ⟨e1, e2⟩ := Prod.mk.inj e
        obtain ⟨e3, e4⟩ := Prod.mk.inj e'
        have a := at_ x hx
        have c := at_ y hy
        rw [e2] at a
        rw [e4] at c
        rw [← e1, ← e3]
        exact hM.inj _ _ _ a c
      · rw [List.map_map]
        show (g.map fun p => p) = g
        rw [List.map_id']
      · rw [List.map_map] at hw
        obtain ⟨x, hx, e⟩ := List.mem_map.mp hw
        have e : (aget M x).getD 0 = w := e
        rw [← e]
        exact hbs _ (hv _ (mem_vals.mpr ⟨x, at_ x hx⟩))
end CL

/-! CX1: enumerate over a tuple. -/
namespace CX
open PySem PySem.Spec PyProof.Rows L2

theorem meets_enumerate_new1B {v : Value} {o : Obj} {H : Heap → Prop} (B : Begins v o H) :
    Meets (Builtin.«enumerate.__new__» ⟨[.type "enumerate", v], []⟩) (fun _ R s => H s.heap ∧
      R (.ok (.ret (.ref (s.heap.push o).objs.size))) { s with heap := (s.heap.push o).push { cls := .type "enumerate", data := .fields #[.none, .bool false, .ref s.heap.objs.size, rawInt 0, .none, .none] } }) :=
  .of_wp fun prog w A R s h => by
    obtain ⟨hp, g, d, tk, os⟩ := s; obtain ⟨h1, h⟩ := h
    have hsub := sub_enumerate
    have q1 : ∀ {A' : Around} {E : Value → Shared → Prop} {Q : Value → Shared → Prop}, Q (.ref hp.objs.size) ⟨hp.push o, g, d, tk, os⟩ → wpAny (model prog w) A' (pyIter v) Q E ⟨hp, g, d, tk, os⟩ :=
      fun q => B.iter prog w _ _ ⟨hp, g, d, tk, os⟩ _ h1 q
    wp_walk using q1
    refine wpAny_stack_any fun st => wpAny_pure ?_
    split
    · rename_i c _ _ _ _ _
      cases (c == Value.type "enumerate")
      · wp_walk using q1
        exact ⟨_, rfl, h⟩
      · wp_walk using q1
        exact ⟨_, rfl, h⟩
    · wp_walk using q1
      exact ⟨_, rfl, h⟩
section
variable {prog : Program} {w : World} {A : Around} {E : Value → Shared → Prop} {s : Shared}
theorem enum_begins1 {v : Value} {o : Obj} {H : Heap → Prop} {Q : Value → Shared → Prop} (B : Begins v o H) (h1 : H s.heap)
    (h : ∀ h', IsEnum h' (s.heap.objs.size + 1) s.heap.objs.size 0 .none → h'.get? s.heap.objs.size = some o → h'.objs.size = s.heap.objs.size + 2 →
      (∀ b o, s.heap.get? b = some o → h'.get? b = some o) → Q (.ref (s.heap.objs.size + 1)) { s with heap := h' }) :
    wpAny (model prog w) A (call (.type "enumerate") [v]) Q E s := by
  refine callType_new F.called_enumerate (by decide) (F.typeCall_enumerate_1 _) (F.newCall_enumerate_1 _) (fun obj => F.args_object_init_2 obj _) F.entry_enumerate_new
    (meets_enumerate_new1B B) ⟨h1, ?_⟩
  have hz : (s.heap.push o).objs.size = s.heap.objs.size + 1 := Heap.size_push ..
  show _ ∧ _
  rw [hz]
  have he : IsEnum ((s.heap.push o).push { cls := .type "enumerate", data := .fields #[.none, .bool false, .ref s.heap.objs.size, rawInt 0, .none, .none] }) (s.heap.objs.size + 1) s.heap.objs.size 0 .none := by
    have := Heap.get?_push_size (s.heap.push o) (o := { cls := .type "enumerate", data := .fields #[.none, .bool false, .ref s.heap.objs.size, rawInt 0, .none, .none] }) rfl
    rw [hz] at this; exact this
  refine ⟨⟨_, he, rfl⟩, h _ he (Heap.get?_push_of_some _ (Heap.get?_push_size _ B.free)) (by rw [Heap.size_push, hz]) fun b o x => Heap.get?_push_of_some _ (Heap.get?_push_of_some _ x)⟩
end
section
variable {prog : Program} {w : World} {A : Around} {E : Value → Shared → Prop} {s : Shared}
theorem wpAny_pyNext_enum_endDT {e it t : Addr} {i : Nat} {c : Int} {items : Array Value} {old : Value} {Q : Option Value → Shared → Prop} (hh : A.handled = none) (he : IsEnum s.heap e it c old) (hit : s.heap.IsTupleIter it t i) (ht : s.heap.IsTuple t items) (hx : items[i]? = none)
    (hQ : ∀ h', Heap.ExtBut it s.heap h' → Q none { s with heap := h' }) : wpAny (model prog w) A (pyNext (.ref e)) Q E s := by
  have hT : s.TypeIs (.ref e) "enumerate" := ⟨_, he, rfl⟩
  unfold pyNext
  refine wpAny_bind (wpAny_attempt (wpAny_callSpecial?_slot (name := Str.ofString "__next__") hT F.slot_enumerate_next
    (wpAny_call_entry F.slot_enumerate_next hT F.entry_enumerate_next ?_ (F.args_enumerate_next_1 _))))
  show wpAny _ _ (field (.ref e) 2 >>= _) _ _ _
  refine wpAny_bind (wpAny_field he rfl (x := .ref it) rfl ?_)
  refine wpAny_bind (wpAny_nextOf_tuple_end hh hit ht hx fun h' x he' hx' => ?_)
  obtain ⟨o, ho, hc⟩ := hx'
  refine wpAny_bind (wpAny_isInstance (T := "StopIteration") (b := true) ⟨o, ho, hc⟩ isSubtype_stop ?_)
  exact wpAny_pure (hQ _ he')
end
/-- the tuple at a, each item in a new pair -/
def IteT (K : PySem.W.Frag) (a : Addr) : It :=
  ⟨fun i H => ∃ (xs : List V) (x : V), SqT K H a xs ∧ xs[i]? = some x, fun i H v H' => ∃ T x, v = .ref T ∧ H T = none ∧ H' = upd H T (.tup [.int (i : Nat), x]) ∧ ∀ xs, SqT K H a xs → xs[i]? = some x, fun i H => ∃ xs : List V, SqT K H a xs ∧ xs.length ≤ i⟩
theorem turn_enumT {P : Program} {w : World} {K : PySem.W.Frag} {elts : List Expr} {kk : Nat} {tpos : Pos} (a e it : Addr) (hai : a ≠ it) (hae : a ≠ e) :
    Turn P w K (.Tuple elts kk tpos) (IteT K a) [e, it] e (fun i h => (∃ old, IsEnum h e it ((i : Nat) : Int) old) ∧ h.IsTupleIter it a i ∧ e ≠ it) where
  mem := by simp
  obj := fun i h st b hb => by
    obtain ⟨⟨old, he⟩, ⟨o, ho, hc, hd⟩, _⟩ := st
    have e' : b = e ∨ b = it := by simpa using hb
    rcases e' with z | z
    · rw [z]; exact ⟨_, he, fun v q => nomatch q⟩
    · rw [z]; exact ⟨o, ho, fun v q => by rw [hd] at q; cases q⟩
  keep := fun i h h' st k => let ⟨⟨old, he⟩, hi, hne⟩ := st; ⟨⟨old, k e (by simp) _ he⟩, hi.at fun o q => k it (by simp) o q, hne⟩
  item := by
    intro X hP hw hK hc i pins s σ H E I hf st hg
    subst hP hw hK
    obtain ⟨⟨old, he⟩, hit, hne⟩ := st
    obtain ⟨xs, x, hq, hx⟩ := hg
    obtain ⟨its, rv, p, hz⟩ := I.tuple hq
    obtain ⟨u, hu, ru⟩ := rv.get hx
    have hel : e < s.heap.objs.size := Heap.lt_size he
    have hil : it < s.heap.objs.size := by obtain ⟨_, q, _⟩ := hit; exact Heap.lt_size q
    have pt : s.heap.IsTuple a its.toArray := p
    have hlt : i < its.toArray.size := by
      have := (List.getElem?_eq_some_iff.mp hu).1
      simpa using this
    refine wpAny_pyNext_enum_itemD (Draws.tuple (A := X.A.in1) (I.ok.hd hc) it a hai its.toArray) he ⟨hit, pt⟩ hlt hne (by simp [hne, Ne.symm hae]) fun y h' tk hy ho hst hT hsz hk => ?_
    have ey : y = u := by
      have : its.toArray[i]? = some u := by simpa using hu
      rw [this] at hy
      exact (Option.some.inj hy).symm
    subst ey
    refine ⟨_, rfl, wpAny_letOwnedTupleGo_enum (s := { s with heap := h', toks := tk + 1 }) ho fun h'' he' sb => ?_⟩
    have hT2 : h''.get? s.heap.objs.size = some { cls := .type "tuple", data := .seq #[.int i tk, y] } := (sb.2 _ (Nat.ne_of_gt hel)).trans hT
    have new : ObjOk X.prog X.w (upd H s.heap.objs.size (.tup [.int (i : Nat), x])) h'' s.heap.objs.size (.tup [.int (i : Nat), x]) :=
      ⟨by show 2 ≤ sizeLine; decide, [.int i tk, y], .cons ⟨_, rfl⟩ (.cons ru .nil), ⟨_, hT2, rfl, _, rfl⟩⟩
    have I1 : Inv X pins σ (upd H s.heap.objs.size (.tup [.int (i : Nat), x])) { s with heap := h'', toks := tk + 1 } :=
      I.turnedNew (ch := [e, it]) (fun b ob hb q => (sb.2 b (fun z => hb (by simp [z]))).trans (hk b ob (fun z => hb (by simp [z])) (fun z => hb (by simp [z])) q)) hf (Nat.le_refl _) new
    refine ⟨.ref s.heap.objs.size, _, I1, rfl, ⟨_, x, rfl, I.hok.fresh (Nat.le_refl _), rfl, fun ys hy => by rw [I.tuple_inj hy hq]; exact hx⟩, ⟨⟨y, ?_⟩, hst.1.at fun o q => (sb.2 it (Ne.symm hne)).trans q, hne⟩, fun b hb => ?_⟩
    · have e1 : ((i + 1 : Nat) : Int) = (i : Int) + 1 := by omega
      rw [e1]; exact he'
    · have hb' : b < s.heap.objs.size := by
        have e' : b = e ∨ b = it := by simpa using hb
        rcases e' with z | z
        · rw [z]; exact hel
        · rw [z]; exact hil
      rw [upd_ne (Nat.ne_of_lt hb')]
      exact (hf b hb).1
  done := by
    intro X hP hw hK hc i pins s σ H E I hf st hg
    subst hP hw hK
    obtain ⟨⟨old, he⟩, hit, hne⟩ := st
    obtain ⟨xs, hq, hx⟩ := hg
    obtain ⟨its, rv, p, hz⟩ := I.tuple hq
    obtain ⟨f0, f1, f2, f3, f4, f5⟩ := hf it (by simp)
    have hl := rv.length
    have pt : s.heap.IsTuple a its.toArray := p
    refine wpAny_pyNext_enum_endDT (I.ok.hd hc) he hit pt (by simp; omega) fun h' eb => ⟨rfl, I.turned (t' := s.toks) (fun b o hb q => eb b o hb q) f0 f1 f3 f4 f5⟩
  self := fun A i s Q E st h => let ⟨⟨_, he⟩, _⟩ := st; wpAny_pyIter_enum he h
def iEnumT (K : PySem.W.Frag) (ta : TA) : TI := fun σ H R => ta σ H fun vs H1 => ∃ a xs, vs = [.ref a] ∧ SqT K H1 a xs ∧ R (IteT K a) H1
theorem pi_enumT {X : Cx} {e : Expr} {ta : TA} {p pos tpos : Pos} {elts : List Expr} {kk : Nat} (hg : Gl X "enumerate") (hm : X.mg "enumerate" = none) (ha : PA X [e] ta) (hs : starEach [e] X.env = [(false, eval e X.env)] := by rfl) :
    PI X (.Tuple elts kk tpos) (.Call (.Name "enumerate" p) [e] [] pos) (iEnumT X.K ta) := by
  refine ⟨fun pins s σ H R I h => ?_⟩
  refine Call_ (ld_blt I hg hm boot_enumerate (PyProof.Rows.callWith_type1 (thn (ha.run pos pins s σ H _ I h) fun us s1 ⟨vs, H1, I1, r1, q1⟩ => ?_) hs rfl))
  obtain ⟨a, xs, ex, hq, q⟩ := q1
  subst ex
  cases r1 with
  | cons r rr =>
    cases rr
    cases r
    obtain ⟨its, rv, p', hz⟩ := I1.tuple hq
    have pt : s1.heap.IsTuple a its.toArray := p'
    have hal : a < s1.heap.objs.size := by obtain ⟨_, q, _⟩ := p'; exact Heap.lt_size q
    refine enum_begins1 (begins_tuple a its.toArray) pt fun h' he hit hsz hk => wpAny_pyIter_enum he ?_
    have I2 : Inv X pins σ H1 { s1 with heap := h' } := I1.kept (t' := s1.toks) hk
    refine ⟨s1.heap.objs.size + 1, [s1.heap.objs.size + 1, s1.heap.objs.size], _, _, H1, rfl, I2, turn_enumT a (s1.heap.objs.size + 1) s1.heap.objs.size (Nat.ne_of_lt hal) (Nat.ne_of_lt (Nat.lt_succ_of_lt hal)), ⟨⟨.none, he⟩, ⟨_, hit, rfl, rfl⟩, Nat.succ_ne_self _⟩, fun b hb => ?_, q⟩
    have e' : b = s1.heap.objs.size + 1 ∨ b = s1.heap.objs.size := by simpa using hb
    have hle : s1.heap.objs.size ≤ b := by
      rcases e' with z | z
      · rw [z]; exact Nat.le_add_right _ _
      · rw [z]; exact Nat.le_refl _
    exact I1.fpOk hle (I1.hok.fresh hle)
end CX

/-! CE: what a reading evaluates to, by a word of the value and the heap. -/
namespace CE
open PySem L2 Evl

abbrev VP := V → Hp → Prop
/-- tuples stay -/
def Tx (H H' : Hp) : Prop := ∀ a xs, H a = some (.tup xs) → H' a = some (.tup xs)
theorem Tx.refl (H : Hp) : Tx H H := fun _ _ h => h
theorem Tx.trans {H H1 H2 : Hp} (a : Tx H H1) (b : Tx H1 H2) : Tx H H2 := fun x o h => b x o (a x o h)
theorem tx_of {H H' : Hp} (e : Ex H H') : Tx H H' := fun a xs h => e a _ h
theorem tx_upd {H : Hp} {p : Addr} {o : HO} (h : ∀ xs, H p ≠ some (.tup xs)) : Tx H (upd H p o) := fun a xs e => by
  rw [upd_ne (fun z => h xs (by rw [← z]; exact e))]
  exact e
theorem tx_lst {H : Hp} {p : Addr} {ys : List V} {o : HO} (h : H p = some (.lst ys)) : Tx H (upd H p o) := tx_upd fun xs e => by
  rw [h] at e
  cases e
def Stt (P : VP) : Prop := ∀ v H H', Tx H H' → P v H → P v H'
def Stx (P : VP) : Prop := ∀ v H H', Ex H H' → P v H → P v H'
theorem Stt.x {P : VP} (h : Stt P) : Stx P := fun v H H' e p => h v H H' (tx_of e) p
def AllP : List VP → List V → Hp → Prop
  | [], [], _ => True
  | P :: Ps, v :: vs, H => P v H ∧ AllP Ps vs H
  | _, _, _ => False
theorem AllP.len : ∀ {Ps : List VP} {vs : List V} {H : Hp}, AllP Ps vs H → vs.length = Ps.length
  | [], [], _, _ => rfl
  | P :: Ps, v :: vs, H, h => by rw [List.length_cons, List.length_cons, AllP.len h.2]
  | [], _ :: _, _, h => h.elim
  | _ :: _, [], _, h => h.elim
theorem AllP.tx {H H' : Hp} (e : Tx H H') : ∀ {Ps : List VP} {vs : List V}, (∀ P ∈ Ps, Stt P) → AllP Ps vs H → AllP Ps vs H'
  | [], [], _, _ => trivial
  | P :: Ps, v :: vs, s, h => ⟨s P (by simp) v H H' e h.1, AllP.tx e (fun P hP => s P (by simp [hP])) h.2⟩
  | [], _ :: _, _, h => h.elim
  | _ :: _, [], _, h => h.elim
theorem AllP.ex {H H' : Hp} (e : Ex H H') : ∀ {Ps : List VP} {vs : List V}, (∀ P ∈ Ps, Stx P) → AllP Ps vs H → AllP Ps vs H'
  | [], [], _, _ => trivial
  | P :: Ps, v :: vs, s, h => ⟨s P (by simp) v H H' e h.1, AllP.ex e (fun P hP => s P (by simp [hP])) h.2⟩
  | [], _ :: _, _, h => h.elim
  | _ :: _, [], _, h => h.elim
theorem AllP.app {H : Hp} : ∀ {Ps Qs : List VP} {vs ws : List V}, AllP Ps vs H → AllP Qs ws H → AllP (Ps ++ Qs) (vs ++ ws) H
  | [], _, [], _, _, h => h
  | P :: Ps, _, v :: vs, _, h, h2 => ⟨h.1, AllP.app h.2 h2⟩
  | [], _, _ :: _, _, h, _ => h.elim
  | _ :: _, _, [], _, h, _ => h.elim
theorem AllP.get {H : Hp} : ∀ {Ps : List VP} {vs : List V} {i : Nat} {P : VP}, AllP Ps vs H → Ps[i]? = some P → ∃ v, vs[i]? = some v ∧ P v H
  | P :: Ps, v :: vs, 0, Q, h, e => by
    have e : P = Q := by simpa using e
    subst e
    exact ⟨v, rfl, h.1⟩
  | P :: Ps, v :: vs, i + 1, Q, h, e => by
    obtain ⟨w, h1, h2⟩ := AllP.get (i := i) h.2 (by simpa using e)
    exact ⟨w, by simpa using h1, h2⟩
  | [], [], i, _, _, e => by simp at e
  | [], _ :: _, _, _, h, _ => h.elim
  | _ :: _, [], _, _, h, _ => h.elim
theorem AllP.at_ {H : Hp} {Ps : List VP} {vs : List V} {i : Nat} {v : V} (h : AllP Ps vs H) (e : vs[i]? = some v) : ∃ P, Ps[i]? = some P ∧ P v H := by
  have hi := (List.getElem?_eq_some_iff.mp e).1
  have hl := h.len
  obtain ⟨w, h1, h2⟩ := h.get (i := i) (P := Ps[i]) (List.getElem?_eq_getElem (by omega))
  rw [e] at h1
  cases h1
  exact ⟨_, List.getElem?_eq_getElem (by omega), h2⟩
theorem AllP.imp {H H' : Hp} : ∀ {Ps Qs : List VP} {vs : List V}, (Ps.length = Qs.length) → (∀ (i : Nat) P Q v, Ps[i]? = some P → Qs[i]? = some Q → P v H → Q v H') → AllP Ps vs H → AllP Qs vs H'
  | [], [], [], _, _, _ => trivial
  | P :: Ps, Q :: Qs, v :: vs, hl, s, h => ⟨s 0 P Q v rfl rfl h.1, AllP.imp (by simpa using hl) (fun i P Q v a b => s (i + 1) P Q v (by simpa using a) (by simpa using b)) h.2⟩
  | [], _, _ :: _, _, _, h => h.elim
  | _ :: _, _, [], _, _, h => h.elim
  | [], _ :: _, [], hl, _, _ => by simp at hl
  | _ :: _, [], _ :: _, hl, _, _ => by simp at hl
theorem allP1 {P : VP} {vs : List V} {H : Hp} (h : AllP [P] vs H) : ∃ v, vs = [v] ∧ P v H := by
  match vs, h with
  | [v], h => exact ⟨v, rfl, h.1⟩
theorem allP2 {P P2 : VP} {vs : List V} {H : Hp} (h : AllP [P, P2] vs H) : ∃ v w, vs = [v, w] ∧ P v H ∧ P2 w H := by
  match vs, h with
  | [v, w], h => exact ⟨v, w, rfl, h.1, h.2.1⟩
theorem allP3 {P P2 P3 : VP} {vs : List V} {H : Hp} (h : AllP [P, P2, P3] vs H) : ∃ v w u, vs = [v, w, u] ∧ P v H ∧ P2 w H ∧ P3 u H := by
  match vs, h with
  | [v, w, u], h => exact ⟨v, w, u, rfl, h.1, h.2.1, h.2.2.1⟩

/-! ### data -/
def IsV (x : V) : VP := fun v _ => v = x
theorem stt_V (x : V) : Stt (IsV x) := fun _ _ _ _ h => h
abbrev nV (n : Nat) : V := .int (n : Int)
abbrev eN (g : List Nat) : List V := g.map nV
/-- a list, a tuple, by its items -/
def IsL (Ps : List VP) : VP := fun v H => ∃ a xs, v = .ref a ∧ H a = some (.lst xs) ∧ AllP Ps xs H
def IsT (Ps : List VP) : VP := fun v H => ∃ a xs, v = .ref a ∧ H a = some (.tup xs) ∧ AllP Ps xs H
theorem stx_L {Ps : List VP} (h : ∀ P ∈ Ps, Stx P) : Stx (IsL Ps) := fun v H H' e ⟨a, xs, hv, ha, hx⟩ => ⟨a, xs, hv, e a _ ha, hx.ex e h⟩
theorem stx_T {Ps : List VP} (h : ∀ P ∈ Ps, Stx P) : Stx (IsT Ps) := fun v H H' e ⟨a, xs, hv, ha, hx⟩ => ⟨a, xs, hv, e a _ ha, hx.ex e h⟩
theorem stt_T {Ps : List VP} (h : ∀ P ∈ Ps, Stt P) : Stt (IsT Ps) := fun v H H' e ⟨a, xs, hv, ha, hx⟩ => ⟨a, xs, hv, e a _ ha, hx.tx e h⟩
/-- a group -/
def IsG (g : List Nat) : VP := fun v H => ∃ a, v = .ref a ∧ H a = some (.tup (eN g))
theorem stt_G (g : List Nat) : Stt (IsG g) := fun v H H' e ⟨a, hv, ha⟩ => ⟨a, hv, e a _ ha⟩
/-- a list of ints -/
def IsN (g : List Nat) : VP := fun v H => ∃ a, v = .ref a ∧ H a = some (.lst (eN g))
theorem stx_N (g : List Nat) : Stx (IsN g) := fun v H H' e ⟨a, hv, ha⟩ => ⟨a, hv, e a _ ha⟩
/-- a list of groups, a tuple of groups -/
abbrev IsGs (L : List (List Nat)) : VP := IsL (L.map IsG)
abbrev IsTG (L : List (List Nat)) : VP := IsT (L.map IsG)
theorem all_G {L : List (List Nat)} : ∀ P ∈ L.map IsG, Stt P := fun P h => by
  obtain ⟨g, _, rfl⟩ := List.mem_map.mp h
  exact stt_G g
theorem stx_Gs (L : List (List Nat)) : Stx (IsGs L) := stx_L fun P h => (all_G P h).x
theorem stt_TG (L : List (List Nat)) : Stt (IsTG L) := stt_T all_G
theorem allV_eq {H : Hp} : ∀ {xs vs : List V}, AllP (xs.map IsV) vs H → vs = xs
  | [], [], _ => rfl
  | x :: xs, v :: vs, h => by
    have e : v = x := h.1
    rw [e, allV_eq h.2]
  | [], _ :: _, h => h.elim
  | _ :: _, [], h => h.elim
theorem allV_mk {H : Hp} : ∀ xs : List V, AllP (xs.map IsV) xs H
  | [] => trivial
  | x :: xs => ⟨rfl, allV_mk xs⟩
theorem isN_of {g : List Nat} {v : V} {H : Hp} (h : IsL (g.map fun n => IsV (nV n)) v H) : IsN g v H := by
  obtain ⟨a, xs, hv, ha, hx⟩ := h
  have : g.map (fun n => IsV (nV n)) = (eN g).map IsV := by rw [List.map_map]; rfl
  rw [this] at hx
  rw [allV_eq hx] at ha
  exact ⟨a, hv, ha⟩
/-- the i-th group of a list of them -/
theorem gs_get {H : Hp} {L : List (List Nat)} {vs : List V} {i : Nat} {g : List Nat} (h : AllP (L.map IsG) vs H) (e : L[i]? = some g) : ∃ v, vs[i]? = some v ∧ IsG g v H :=
  h.get (by rw [List.getElem?_map, e]; rfl)
theorem gs_at {H : Hp} {L : List (List Nat)} {vs : List V} {i : Nat} {v : V} (h : AllP (L.map IsG) vs H) (e : vs[i]? = some v) : ∃ g, L[i]? = some g ∧ IsG g v H := by
  obtain ⟨P, h1, h2⟩ := h.at_ e
  rw [List.getElem?_map] at h1
  obtain ⟨g, hg, rfl⟩ := Option.map_eq_some_iff.mp h1
  exact ⟨g, hg, h2⟩

/-! ### evaluation -/
def EvP (te : TE) (σ : L2.St) (H : Hp) (P : VP) : Prop := ∀ H1, Ex H H1 → ∀ Q : VK, (∀ v H2, Ex H1 H2 → P v H2 → Q v H2) → te σ H1 Q
def EvAP (ta : TA) (σ : L2.St) (H : Hp) (Ps : List VP) : Prop := ∀ H1, Ex H H1 → ∀ Q : List V → Hp → Prop, (∀ vs H2, Ex H1 H2 → AllP Ps vs H2 → Q vs H2) → ta σ H1 Q
def RP (r : R2) (x y : V) (H : Hp) (P : VP) : Prop := ∀ H1, Ex H H1 → ∀ Q : VK, (∀ v H2, Ex H1 H2 → P v H2 → Q v H2) → r x y H1 Q
def RCP (r : List V → Hp → VK → Prop) (vs : List V) (H : Hp) (P : VP) : Prop := ∀ H1, Ex H H1 → ∀ Q : VK, (∀ v H2, Ex H1 H2 → P v H2 → Q v H2) → r vs H1 Q
def SpP (sp : Sp) (vs : List V) (H : Hp) (P : VP) : Prop := ∀ H1, Ex H H1 → ∀ (Q : VK) (E : XK), (∀ v H2, Ex H1 H2 → P v H2 → Q v H2) → sp vs H1 Q E
section
variable {K : PySem.W.Frag} {σ : L2.St} {H H' : Hp} {ta tb te : TE} {t u : TT} {P P' R : VP} {x y z v : V} {r : R2}
theorem EvP.mono (e : Ex H H') (h : EvP te σ H P) : EvP te σ H' P := fun H1 a Q q => h H1 (e.trans a) Q q
theorem EvAP.mono {ta : TA} {Ps : List VP} (e : Ex H H') (h : EvAP ta σ H Ps) : EvAP ta σ H' Ps := fun H1 a Q q => h H1 (e.trans a) Q q
theorem EvP.imp (h : EvP te σ H P) (i : ∀ v H1, Ex H H1 → P v H1 → P' v H1) : EvP te σ H P' := fun H1 e Q q => h H1 e Q fun v H2 e2 p => q v H2 e2 (i v H2 (e.trans e2) p)
theorem ep_var {i : Nat} (h : σ[i]? = some (some v)) (p : P v H) (s : Stx P) : EvP (tVar i) σ H P := fun H1 e _ q => ⟨v, h, q v H1 (Ex.refl H1) (s v H H1 e p)⟩
theorem ep_ev (h : Ev te σ H v) : EvP te σ H (IsV v) := fun H1 e Q q => h H1 e Q fun H2 e2 => q v H2 e2 rfl
theorem ev_ep (h : EvP te σ H (IsV v)) : Ev te σ H v := fun H1 e Q q => h H1 e Q fun w H2 e2 p => by
  have p : w = v := p
  rw [p]
  exact q H2 e2
theorem ep_of_ev (h : Ev te σ H v) (p : P v H) (s : Stx P) : EvP te σ H P := fun H1 e Q q => h H1 e Q fun H2 e2 => q v H2 e2 (s v H H2 (e.trans e2) p)
theorem ep_op (ha : EvP ta σ H P) (s : Stx P) (hb : EvP tb σ H P') (hr : ∀ x y H1, Ex H H1 → P x H1 → P' y H1 → RP r x y H1 R) : EvP (tOp r ta tb) σ H R := fun H1 e Q q =>
  ha H1 e _ fun x H2 e2 p => hb H2 (e.trans e2) _ fun y H3 e3 p' => hr x y H3 ((e.trans e2).trans e3) (s x H2 H3 e3 p) p' H3 (Ex.refl H3) Q fun v H4 e4 => q v H4 ((e2.trans e3).trans e4)
theorem ev_opP (ha : EvP ta σ H P) (s : Stx P) (hb : EvP tb σ H P') (hr : ∀ x y H1, Ex H H1 → P x H1 → P' y H1 → RV r x y H1 z) : Ev (tOp r ta tb) σ H z := fun H1 e Q q =>
  ha H1 e _ fun x H2 e2 p => hb H2 (e.trans e2) _ fun y H3 e3 p' => hr x y H3 ((e.trans e2).trans e3) (s x H2 H3 e3 p) p' H3 (Ex.refl H3) Q fun H4 e4 => q H4 ((e2.trans e3).trans e4)
theorem eap_nil : EvAP tNil σ H [] := fun H1 _ _ q => q [] H1 (Ex.refl H1) trivial
theorem eap_cons {tr : TA} {Ps : List VP} (h : EvP te σ H P) (s : Stx P) (hr : EvAP tr σ H Ps) : EvAP (tCons te tr) σ H (P :: Ps) := fun H1 e _ q =>
  h H1 e _ fun v H2 e2 p => hr H2 (e.trans e2) _ fun vs H3 e3 ps => q (v :: vs) H3 (e2.trans e3) ⟨s v H2 H3 e3 p, ps⟩
theorem ep_cb {rc : List V → Hp → VK → Prop} {ta : TA} {Ps : List VP} (h : EvAP ta σ H Ps) (hr : ∀ vs H1, Ex H H1 → AllP Ps vs H1 → RCP rc vs H1 R) : EvP (tCB rc ta) σ H R := fun H1 e Q q =>
  h H1 e _ fun vs H2 e2 p => hr vs H2 (e.trans e2) p H2 (Ex.refl H2) Q fun v H3 e3 => q v H3 (e2.trans e3)
theorem ep_call {sp : Sp} {E : XK} {ta : TA} {Ps : List VP} (h : EvAP ta σ H Ps) (hr : ∀ vs H1, Ex H H1 → AllP Ps vs H1 → SpP sp vs H1 R) : EvP (tCall sp [] E ta) σ H R := fun H1 e Q q =>
  h H1 e _ fun vs H2 e2 p => by
    rw [List.append_nil]
    exact hr vs H2 (e.trans e2) p H2 (Ex.refl H2) Q E fun v H3 e3 => q v H3 (e2.trans e3)
theorem ep_tup {ta : TA} {Ps : List VP} (h : EvAP ta σ H Ps) (s : ∀ P ∈ Ps, Stx P) (hl : Ps.length ≤ 100000) : EvP (tTup ta) σ H (IsT Ps) := fun H1 e _ q =>
  h H1 e _ fun vs H2 e2 p => ⟨sz_of (by rw [p.len]; exact hl), fun l hp => q (.ref l) _ (e2.trans (Ex.new hp)) ⟨l, vs, rfl, upd_same, p.ex (Ex.new hp) s⟩⟩
theorem ep_lst {ta : TA} {Ps : List VP} (h : EvAP ta σ H Ps) (s : ∀ P ∈ Ps, Stx P) (hl : Ps.length ≤ 100000) : EvP (tLst ta) σ H (IsL Ps) := fun H1 e _ q =>
  h H1 e _ fun vs H2 e2 p => ⟨sz_of (by rw [p.len]; exact hl), fun l hp => q (.ref l) _ (e2.trans (Ex.new hp)) ⟨l, vs, rfl, upd_same, p.ex (Ex.new hp) s⟩⟩
/-! statements -/
variable {D : Ends} {tu tw tz : TS}
theorem p_ret (h : EvP te σ H R) (k : ∀ v H1, Ex H H1 → R v H1 → D.rt v H1) : tRet te D σ H := h H (Ex.refl H) _ k
theorem p_asg {i : Nat} (h : EvP te σ H R) (k : ∀ v H1, Ex H H1 → R v H1 → D.nx (σ.set i (some v)) H1) : tAsg te (gName i) D σ H := h H (Ex.refl H) _ k
theorem pq_asg {i : Nat} (h : EvP te σ H R) (k : ∀ v H1, Ex H H1 → R v H1 → tz D (σ.set i (some v)) H1) : tSeq (tAsg te (gName i)) tz D σ H := p_asg (D := { D with nx := tz D }) h k
/-! ### comprehensions -/
def givenP (n : Nat) (f : Nat → Bool) (R : Nat → VP) : List VP := ((List.range n).filter f).map R
theorem givenP_yes {n : Nat} {f : Nat → Bool} {v : Nat → VP} (h : f n = true) : givenP (n + 1) f v = givenP n f v ++ [v n] := by
  unfold givenP
  rw [List.range_succ, List.filter_append, List.map_append, List.filter_cons, if_pos h] <;> rfl
theorem givenP_no {n : Nat} {f : Nat → Bool} {v : Nat → VP} (h : f n = false) : givenP (n + 1) f v = givenP n f v := by
  unfold givenP
  rw [List.range_succ, List.filter_append, List.map_append, List.filter_cons, if_neg (by rw [h]; decide)]
  show _ ++ [] = _
  rw [List.append_nil]
theorem givenP_len (n : Nat) (f : Nat → Bool) (v : Nat → VP) : (givenP n f v).length ≤ n := by
  unfold givenP
  rw [List.length_map]
  have h := List.length_filter_le f (List.range n)
  rw [List.length_range] at h
  exact h
theorem givenP_st {n : Nat} {f : Nat → Bool} {R : Nat → VP} (h : ∀ i, Stt (R i)) : ∀ P ∈ givenP n f R, Stt P := fun P hP => by
  unfold givenP at hP
  obtain ⟨i, _, rfl⟩ := List.mem_map.mp hP
  exact h i
/-- as the mirror says it: the items that pass, each by its word -/
theorem givenP_eq {α : Type} {β : Type} {xs : List α} {f : Nat → Bool} {R : Nat → VP} {p : α → Bool} {m : α → β} {S : β → VP} (h : ∀ (i : Nat) x, xs[i]? = some x → f i = p x ∧ R i = S (m x)) : givenP xs.length f R = ((xs.filter p).map m).map S := by
  have key : ∀ n, n ≤ xs.length → givenP n f R = (((xs.take n).filter p).map m).map S := by
    intro n
    induction n with
    | zero => intro _; simp [givenP]
    | succ n ih =>
      intro hn
      have hx : xs[n]? = some xs[n] := List.getElem?_eq_getElem (by omega)
      obtain ⟨h1, h2⟩ := h n _ hx
      have e : xs.take (n + 1) = xs.take n ++ [xs[n]] := by rw [List.take_add_one, hx]; rfl
      rw [e, List.filter_append, List.map_append, List.map_append, ← ih (by omega)]
      cases q : p xs[n] with
      | true =>
        rw [q] at h1
        rw [givenP_yes h1, h2, List.filter_cons, if_pos q]
        rfl
      | false =>
        rw [q] at h1
        rw [givenP_no h1, List.filter_cons, if_neg (by rw [q]; decide)]
        simp
  have := key xs.length (Nat.le_refl _)
  rw [List.take_length] at this
  exact this
def CwP (H : Hp) (f : Nat → Bool) (R : Nat → VP) (Dl : Addr) (i : Nat) (H' : Hp) : Prop := H Dl = none ∧ Ex H H' ∧ ∃ acc, H' Dl = some (.lst acc) ∧ AllP (givenP i f R) acc H'
theorem cwP_turn {H H' : Hp} {f : Nat → Bool} {R : Nat → VP} {Dl : Addr} {i : Nat} {σ2 : L2.St} (hR : ∀ i, Stt (R i)) (p : CwP H f R Dl i H') (hi : i < 50000) {Hb H2 : Hp} (e2 : Ex H' H2) (ht : EvT t σ2 H2 (f i)) (he : f i = true → EvP te σ2 H2 (R i)) :
    t σ2 H2 fun b H3 => if b = true then te σ2 H3 fun y H4 => ∃ acc, H4 Dl = some (.lst acc) ∧ acc.length < sizeLine ∧ CwP H f R Dl (i + 1) (upd H4 Dl (.lst (acc ++ [y]))) else CwP H f R Dl (i + 1) H3 := by
  obtain ⟨p1, p2, acc, p3, p4⟩ := p
  refine ht H2 (Ex.refl H2) _ fun H3 e3 => ?_
  cases hf : f i with
  | true =>
    show te σ2 H3 fun y H4 => ∃ acc, H4 Dl = some (.lst acc) ∧ acc.length < sizeLine ∧ CwP H f R Dl (i + 1) (upd H4 Dl (.lst (acc ++ [y])))
    refine he hf H3 e3 _ fun y H4 e4 py => ⟨acc, e4 Dl _ (e3 Dl _ (e2 Dl _ p3)), sz_lt (by have := p4.len; have := givenP_len i f R; omega), p1, Ex.mut (((p2.trans e2).trans e3).trans e4) p1, acc ++ [y], upd_same, ?_⟩
    have hD : H4 Dl = some (.lst acc) := e4 Dl _ (e3 Dl _ (e2 Dl _ p3))
    rw [givenP_yes hf]
    refine AllP.app ?_ ⟨hR i y H4 _ (tx_lst hD) py, trivial⟩
    exact p4.tx ((tx_of ((e2.trans e3).trans e4)).trans (tx_lst hD)) (givenP_st hR)
  | false =>
    show CwP H f R Dl (i + 1) H3
    refine ⟨p1, (p2.trans e2).trans e3, acc, e3 Dl _ (e2 Dl _ p3), ?_⟩
    rw [givenP_no hf]
    exact p4.tx (tx_of (e2.trans e3)) (givenP_st hR)
/-- over any walk -/
theorem lcW {J : It} {n : Nat} {G : Hp → Prop} {Y : Nat → Hp → V → Hp → Prop} (w : Walk J n G Y) {g : TG} {vs : List Nat} (f : Nat → Bool) (R : Nat → VP) (hG : ∀ Ha Hb, Ex Ha Hb → G Ha → G Hb) (hn : n ≤ 40000) (hR : ∀ i, Stt (R i)) {H1 : Hp} (h1 : G H1)
    (hs : ∀ i x Ha Hb, i < n → Ex H1 Ha → Y i Ha x Hb → ∀ k : L2.St → Hp → Prop, (∀ σ2 H2, Ex Ha H2 → wipe σ2 vs = wipe σ vs → EvT t σ2 H2 (f i) → (f i = true → EvP te σ2 H2 (R i)) → k σ2 H2) → g x (wipe σ vs) Hb k)
    {Q : VK} (q : ∀ v H2, Ex H1 H2 → IsL (givenP n f R) v H2 → Q v H2) (D : Addr) (hD : H1 D = none) :
    ∃ W : Nat → Nat → Hp → Prop, (∃ m, W 0 m (upd H1 D (.lst []))) ∧ ∀ i m H, W i m H →
      (J.stop i H ∧ Q (.ref D) H) ∨ (J.go i H ∧ ∃ Nx : Hp → Prop, (∀ H', Nx H' → ∃ m', m' < m ∧ W (i + 1) m' H') ∧ ∀ x H', J.yld i H x H' → g x (wipe σ vs) H' fun σ2 H2 => wipe σ2 vs = wipe σ vs ∧ t σ2 H2 fun b H3 =>
        if b = true then te σ2 H3 fun y H4 => ∃ acc, H4 D = some (.lst acc) ∧ acc.length < sizeLine ∧ Nx (upd H4 D (.lst (acc ++ [y]))) else Nx H3) :=
  lc_it (Qd := Q (.ref D)) w (CwP H1 f R D) ⟨hD, Ex.new hD, [], upd_same, trivial⟩ (fun i H' _ p => hG H1 H' p.2.1 h1) (fun i x Ha Hb hi p y => by
    refine hs i x Ha Hb hi p.2.1 y _ fun σ2 H2 e2 hw ht he => ⟨hw, ?_⟩
    exact cwP_turn (Hb := H2) hR p (by omega) e2 ht he) fun H' p => by
    obtain ⟨p1, p2, acc, p3, p4⟩ := p
    exact q _ H' p2 ⟨D, acc, rfl, p3, p4⟩
/-- over a list, the target a name -/
theorem ep_lcL {xs : List V} {tl : TE} {j : Nat} {vs : List Nat} (f : Nat → Bool) (R : Nat → VP) {Pl : VP} (h : EvP tl σ H Pl) (hl : ∀ v H1, Ex H H1 → Pl v H1 → ∃ a, v = .ref a ∧ SqL K H1 a xs) (hz : xs.length ≤ 40000) (hR : ∀ i, Stt (R i)) (hw : ∀ x, wipe ((wipe σ vs).set j (some x)) vs = wipe σ vs)
    (ht : ∀ (i : Nat) (x : V) H1, Ex H H1 → xs[i]? = some x → EvT t ((wipe σ vs).set j (some x)) H1 (f i)) (he : ∀ (i : Nat) (x : V) H1, Ex H H1 → xs[i]? = some x → f i = true → EvP te ((wipe σ vs).set j (some x)) H1 (R i)) :
    EvP (tLc (iList K tl) (gName j) t te vs) σ H (IsL (givenP xs.length f R)) := fun H0 e Q q => h H0 e _ fun v H1 e1 pl => by
  obtain ⟨a, rfl, hx⟩ := hl v H1 (e.trans e1) pl
  refine ⟨a, rfl, ⟨xs, hx⟩, fun D hD => ?_⟩
  refine lcW (σ := σ) (walk_list (xs := xs)) f R (fun Ha Hb ee g => ex_l ee g) hz hR hx (fun i x Ha Hb hi ea y k hk => ?_) (fun v H2 e2 p => q v H2 (e1.trans e2) p) D hD
  obtain ⟨rfl, hxi⟩ := y
  exact hk _ Hb (Ex.refl _) (hw x) (ht i x Hb ((e.trans e1).trans ea) hxi) (he i x Hb ((e.trans e1).trans ea) hxi)
theorem ep_lcT {xs : List V} {tl : TE} {j : Nat} {vs : List Nat} (f : Nat → Bool) (R : Nat → VP) {Pl : VP} (h : EvP tl σ H Pl) (hl : ∀ v H1, Ex H H1 → Pl v H1 → ∃ a, v = .ref a ∧ SqT K H1 a xs) (hz : xs.length ≤ 40000) (hR : ∀ i, Stt (R i)) (hw : ∀ x, wipe ((wipe σ vs).set j (some x)) vs = wipe σ vs)
    (ht : ∀ (i : Nat) (x : V) H1, Ex H H1 → xs[i]? = some x → EvT t ((wipe σ vs).set j (some x)) H1 (f i)) (he : ∀ (i : Nat) (x : V) H1, Ex H H1 → xs[i]? = some x → f i = true → EvP te ((wipe σ vs).set j (some x)) H1 (R i)) :
    EvP (tLc (iTup K tl) (gName j) t te vs) σ H (IsL (givenP xs.length f R)) := fun H0 e Q q => h H0 e _ fun v H1 e1 pl => by
  obtain ⟨a, rfl, hx⟩ := hl v H1 (e.trans e1) pl
  refine ⟨a, rfl, ⟨xs, hx⟩, fun D hD => ?_⟩
  refine lcW (σ := σ) (walk_tup (xs := xs)) f R (fun Ha Hb ee g => ex_t ee g) hz hR hx (fun i x Ha Hb hi ea y k hk => ?_) (fun v H2 e2 p => q v H2 (e1.trans e2) p) D hD
  obtain ⟨rfl, hxi⟩ := y
  exact hk _ Hb (Ex.refl _) (hw x) (ht i x Hb ((e.trans e1).trans ea) hxi) (he i x Hb ((e.trans e1).trans ea) hxi)
theorem ep_lcR {ta : TA} {j : Nat} {vs : List Nat} {n : Int} (f : Nat → Bool) (R : Nat → VP) (h : EvA ta σ H [.int n]) (hn : 0 ≤ n ∧ n ≤ 40000) (hR : ∀ i, Stt (R i)) (hw : ∀ x, wipe ((wipe σ vs).set j (some x)) vs = wipe σ vs)
    (ht : ∀ (i : Nat) H1, Ex H H1 → (i : Int) < n → EvT t ((wipe σ vs).set j (some (nV i))) H1 (f i)) (he : ∀ (i : Nat) H1, Ex H H1 → (i : Int) < n → f i = true → EvP te ((wipe σ vs).set j (some (nV i))) H1 (R i)) :
    EvP (tLc (iRng1 ta) (gName j) t te vs) σ H (IsL (givenP n.toNat f R)) := fun H0 e Q q => h H0 e _ fun H1 e1 => by
  refine ⟨n, rfl, by omega, by omega, fun D hD => ?_⟩
  refine lcW (σ := σ) (walk_range (lo := 0) (n := n.toNat)) f R (fun _ _ _ _ => trivial) (by omega) hR trivial (fun i x Ha Hb hi ea y k hk => ?_) (fun v H2 e2 p => q v H2 (e1.trans e2) p) D hD
  obtain ⟨rfl, rfl⟩ := y
  have e0 : (0 : Int) + (i : Int) = (i : Int) := Int.zero_add _
  show k ((wipe σ vs).set j (some (.int ((0 : Int) + (i : Int))))) Hb
  rw [e0]
  exact hk _ Hb (Ex.refl _) (hw _) (ht i Hb ((e.trans e1).trans ea) (by omega)) (he i Hb ((e.trans e1).trans ea) (by omega))
/-- over enumerate of a tuple, the target two names -/
theorem walk_enumT {a : Addr} {xs : List V} : Walk (CX.IteT K a) xs.length (fun H => SqT K H a xs) (YPair (fun i => some (.int (i : Nat))) (fun i => xs[i]?)) := by
  refine ⟨fun i _ hi q => ⟨xs, xs[i], q, by simp [hi]⟩, fun _ q => ⟨xs, q, Nat.le_refl _⟩, fun i H v H' _ q y => ?_⟩
  obtain ⟨T, x, h1, h2, h3, h4⟩ := y
  exact ⟨T, .int (i : Nat), x, h1, h2, h3, rfl, h4 xs q⟩
theorem ep_lcE {xs : List V} {ta : TA} {j1 j2 : Nat} {vs : List Nat} (f : Nat → Bool) (R : Nat → VP) {Pl : VP} (h : EvAP ta σ H [Pl]) (hl : ∀ v H1, Ex H H1 → Pl v H1 → ∃ a, v = .ref a ∧ SqT K H1 a xs) (hz : xs.length ≤ 40000) (hR : ∀ i, Stt (R i)) (hw : ∀ x y, wipe (((wipe σ vs).set j1 (some x)).set j2 (some y)) vs = wipe σ vs)
    (ht : ∀ (i : Nat) (x : V) H1, Ex H H1 → xs[i]? = some x → EvT t (((wipe σ vs).set j1 (some (nV i))).set j2 (some x)) H1 (f i)) (he : ∀ (i : Nat) (x : V) H1, Ex H H1 → xs[i]? = some x → f i = true → EvP te (((wipe σ vs).set j1 (some (nV i))).set j2 (some x)) H1 (R i)) :
    EvP (tLc (CX.iEnumT K ta) (gTup K 2 (gCons (gName j1) (gCons (gName j2) gNil))) t te vs) σ H (IsL (givenP xs.length f R)) := fun H0 e Q q => h H0 e _ fun us H1 e1 pl => by
  obtain ⟨v, rfl, pv⟩ := allP1 pl
  obtain ⟨a, rfl, hx⟩ := hl v H1 (e.trans e1) pv
  refine ⟨a, xs, rfl, hx, fun D hD => ?_⟩
  refine lcW (σ := σ) (walk_enumT (xs := xs)) f R (fun Ha Hb ee g => ex_t ee g) hz hR hx (fun i x Ha Hb hi ea y k hk => ?_) (fun v H2 e2 p => q v H2 (e1.trans e2) p) D hD
  obtain ⟨T, x1, x2, rfl, hT, rfl, h1, h2⟩ := y
  cases h1
  have ex : Ex Ha (upd Ha T (.tup [.int (i : Nat), x2])) := Ex.new hT
  refine ⟨T, _, rfl, st_of upd_same, rfl, _, _, rfl, _, _, rfl, rfl, ?_⟩
  exact hk _ _ ex (hw _ _) (ht i x2 _ (((e.trans e1).trans ea).trans ex) h2) (he i x2 _ (((e.trans e1).trans ea).trans ex) h2)
end
/-! ### promises -/
/-- a def that changes nothing: what it is given, what it gives back -/
def PrF {α : Type} (ins : α → List VP) (pre : α → Prop) (out : α → VP) : Sp := fun vs H Q _ => ∃ a, pre a ∧ AllP (ins a) vs H ∧ ∀ v H', Ex H H' → out a v H' → Q v H'
theorem prF_len {α : Type} {ins : α → List VP} {pre : α → Prop} {out : α → VP} {n : Nat} (h : ∀ a, (ins a).length = n) : ∀ vs H Q E, PrF ins pre out vs H Q E → vs.length = n := fun vs H Q E ⟨a, _, p, _⟩ => by rw [p.len, h a]
theorem prF_use {α : Type} {ins : α → List VP} {pre : α → Prop} {out : α → VP} {vs : List V} {H : Hp} (a : α) (hp : pre a) (hs : ∀ P ∈ ins a, Stx P) (hi : AllP (ins a) vs H) : SpP (PrF ins pre out) vs H (out a) := fun H1 e Q E q => ⟨a, hp, hi.ex e hs, fun v H' e' p => q v H' e' p⟩
theorem ep_fn {α : Type} {ins : α → List VP} {pre : α → Prop} {out : α → VP} {σ : L2.St} {H : Hp} {E : XK} {ta : TA} (a : α) (h : EvAP ta σ H (ins a)) (hp : pre a) (hs : ∀ P ∈ ins a, Stx P) : EvP (tCall (PrF ins pre out) [] E ta) σ H (out a) :=
  ep_call h fun vs H1 e p => prF_use a hp hs p
end CE

/-! CE2: groups in the heap: len, in, ==, slices, +, items, dicts by groups. -/
namespace CE
open PySem L2 Evl

section
variable {K : PySem.W.Frag} {σ : L2.St} {H H' : Hp} {ta tb te : TE} {t u : TT} {P P' R : VP} {x y z v : V}
abbrev rLenN (K : PySem.W.Frag) : List V → Hp → VK → Prop := fun xs H Q => ∃ x n, xs = [x] ∧ LenV K x H n ∧ Q (.int n) H
theorem ev_lenG {g : List Nat} (h : EvP te σ H (IsG g)) : Ev (tCB (rLenN K) (tCons te tNil)) σ H (nV g.length) := fun H1 e Q q => h H1 e _ fun v H2 e2 ⟨a, hv, ha⟩ => by
  subst hv
  exact ⟨.ref a, g.length, rfl, Or.inr ⟨eN g, st_of ha, by simp⟩, q H2 e2⟩
theorem ev_lenL {Ps : List VP} (h : EvP te σ H (IsL Ps)) : Ev (tCB (rLenN K) (tCons te tNil)) σ H (nV Ps.length) := fun H1 e Q q => h H1 e _ fun v H2 e2 ⟨a, xs, hv, ha, hx⟩ => by
  subst hv
  exact ⟨.ref a, Ps.length, rfl, Or.inl ⟨xs, sq_of ha, hx.len.symm⟩, q H2 e2⟩
theorem ev_lenT {Ps : List VP} (h : EvP te σ H (IsT Ps)) : Ev (tCB (rLenN K) (tCons te tNil)) σ H (nV Ps.length) := fun H1 e Q q => h H1 e _ fun v H2 e2 ⟨a, xs, hv, ha, hx⟩ => by
  subst hv
  exact ⟨.ref a, Ps.length, rfl, Or.inr ⟨xs, st_of ha, hx.len.symm⟩, q H2 e2⟩
theorem ev_lenN' {g : List Nat} (h : EvP te σ H (IsN g)) : Ev (tCB (rLenN K) (tCons te tNil)) σ H (nV g.length) := fun H1 e Q q => h H1 e _ fun v H2 e2 ⟨a, hv, ha⟩ => by
  subst hv
  exact ⟨.ref a, g.length, rfl, Or.inl ⟨eN g, sq_of ha, by simp⟩, q H2 e2⟩
abbrev rTupO (K : PySem.W.Frag) : List V → Hp → VK → Prop := fun xs H Q => ∃ p ys, xs = [.ref p] ∧ ((SqL K H p ys ∧ ∀ l, H l = none → Q (.ref l) (upd H l (.tup ys))) ∨ (SqT K H p ys ∧ Q (.ref p) H))
theorem ep_tupN {g : List Nat} (h : EvP te σ H (IsN g)) : EvP (tCB (rTupO K) (tCons te tNil)) σ H (IsG g) := fun H1 e Q q => h H1 e _ fun v H2 e2 ⟨a, hv, ha⟩ => by
  subst hv
  exact ⟨a, eN g, rfl, Or.inl ⟨sq_of ha, fun l hl => q (.ref l) _ (e2.trans (Ex.new hl)) ⟨l, rfl, upd_same⟩⟩⟩
theorem ep_tupG {g : List Nat} (h : EvP te σ H (IsG g)) : EvP (tCB (rTupO K) (tCons te tNil)) σ H (IsG g) := fun H1 e Q q => h H1 e _ fun v H2 e2 ⟨a, hv, ha⟩ => by
  subst hv
  exact ⟨a, eN g, rfl, Or.inr ⟨st_of ha, q (.ref a) _ e2 ⟨a, rfl, ha⟩⟩⟩
theorem ep_tupL {Ps : List VP} (h : EvP te σ H (IsL Ps)) (s : ∀ P ∈ Ps, Stx P) : EvP (tCB (rTupO K) (tCons te tNil)) σ H (IsT Ps) := fun H1 e Q q => h H1 e _ fun v H2 e2 ⟨a, xs, hv, ha, hx⟩ => by
  subst hv
  exact ⟨a, xs, rfl, Or.inl ⟨sq_of ha, fun l hl => q (.ref l) _ (e2.trans (Ex.new hl)) ⟨l, xs, rfl, upd_same, hx.ex (Ex.new hl) s⟩⟩⟩
abbrev rLstO (K : PySem.W.Frag) : List V → Hp → VK → Prop := fun xs H Q => ∃ p ys, xs = [.ref p] ∧ (SqL K H p ys ∨ SqT K H p ys) ∧ ∀ l, H l = none → Q (.ref l) (upd H l (.lst ys))
theorem ep_lstG {g : List Nat} (h : EvP te σ H (IsG g)) : EvP (tCB (rLstO K) (tCons te tNil)) σ H (IsN g) := fun H1 e Q q => h H1 e _ fun v H2 e2 ⟨a, hv, ha⟩ => by
  subst hv
  exact ⟨a, eN g, rfl, Or.inr (st_of ha), fun l hl => q (.ref l) _ (e2.trans (Ex.new hl)) ⟨l, rfl, upd_same⟩⟩
theorem ep_lstL {Ps : List VP} (h : EvP te σ H (IsL Ps)) (s : ∀ P ∈ Ps, Stx P) : EvP (tCB (rLstO K) (tCons te tNil)) σ H (IsL Ps) := fun H1 e Q q => h H1 e _ fun v H2 e2 ⟨a, xs, hv, ha, hx⟩ => by
  subst hv
  exact ⟨a, xs, rfl, Or.inl (sq_of ha), fun l hl => q (.ref l) _ (e2.trans (Ex.new hl)) ⟨l, xs, rfl, upd_same, hx.ex (Ex.new hl) s⟩⟩
/-- a list of truth values -/
def IsB (bs : List Bool) : VP := fun v H => ∃ a, v = .ref a ∧ H a = some (.lst (bs.map V.bl))
theorem isB_of {bs : List Bool} {Ps : List VP} (h : IsL Ps v H) (e : Ps = bs.map fun b => IsV (.bl b)) : IsB bs v H := by
  obtain ⟨a, xs, hv, ha, hx⟩ := h
  subst e
  have : bs.map (fun b => IsV (.bl b)) = (bs.map V.bl).map IsV := by rw [List.map_map]; rfl
  rw [this] at hx
  rw [allV_eq hx] at ha
  exact ⟨a, hv, ha⟩
theorem ev_any {bs : List Bool} (h : EvP te σ H (IsB bs)) : Ev (tCB (rAny K) (tCons te tNil)) σ H (.bl (bs.any id)) := fun H1 e Q q => h H1 e _ fun v H2 e2 ⟨a, hv, ha⟩ => by
  subst hv
  exact ⟨a, bs, rfl, sq_of ha, q H2 e2⟩
theorem ev_all {bs : List Bool} (h : EvP te σ H (IsB bs)) : Ev (tCB (rAll K) (tCons te tNil)) σ H (.bl (bs.all id)) := fun H1 e Q q => h H1 e _ fun v H2 e2 ⟨a, hv, ha⟩ => by
  subst hv
  exact ⟨a, bs, rfl, sq_of ha, q H2 e2⟩
/-- the list of a comprehension without a test, ints or truth values -/
theorem givenP_all {α : Type} {xs : List α} {R : Nat → VP} {S : α → VP} (h : ∀ (i : Nat) x, xs[i]? = some x → R i = S x) : givenP xs.length (fun _ => true) R = xs.map S := by
  have := givenP_eq (xs := xs) (f := fun _ => true) (R := R) (p := fun _ => true) (m := id) (S := S) fun i x e => ⟨rfl, h i x e⟩
  rw [this]
  have e : ∀ l : List α, l.filter (fun _ => true) = l := fun l => List.filter_eq_self.mpr fun _ _ => rfl
  rw [e, List.map_id]
/-! in, == -/
theorem inV_eN (p : Nat) (g : List Nat) : inV (nV p) (eN g) = g.contains p := by
  unfold inV
  rw [List.contains_eq_any_beq, List.any_map]
  congr 1
  funext q
  show ((q : Int) == (p : Int)) = (p == q)
  rw [Bool.eq_iff_iff, beq_iff_eq, beq_iff_eq]
  omega
theorem flat_eN (g : List Nat) : (eN g).all flatV = true := by
  rw [List.all_map, List.all_eq_true]
  intro _ _
  rfl
theorem ev_inG {p : Nat} {g : List Nat} (ha : Ev ta σ H (nV p)) (hb : EvP tb σ H (IsG g)) : Ev (tOp (rIn K false) ta tb) σ H (.bl (g.contains p)) := by
  refine ev_opP (ep_ev ha) (stt_V _).x hb fun x y H1 e hx hy => ?_
  obtain ⟨a, rfl, ha⟩ := hy
  have hx : x = nV p := hx
  subst hx
  have := rv_isT (K := K) (x := nV p) (st_of ha) rfl (flat_eN g)
  rw [inV_eN] at this
  exact this
theorem ev_niG {p : Nat} {g : List Nat} (ha : Ev ta σ H (nV p)) (hb : EvP tb σ H (IsG g)) : Ev (tOp (rIn K true) ta tb) σ H (.bl (!g.contains p)) := by
  refine ev_opP (ep_ev ha) (stt_V _).x hb fun x y H1 e hx hy => ?_
  obtain ⟨a, rfl, ha⟩ := hy
  have hx : x = nV p := hx
  subst hx
  have := rv_niT (K := K) (x := nV p) (st_of ha) rfl (flat_eN g)
  rw [inV_eN] at this
  exact this
theorem ev_niN {p : Nat} {g : List Nat} (ha : Ev ta σ H (nV p)) (hb : EvP tb σ H (IsN g)) : Ev (tOp (rIn K true) ta tb) σ H (.bl (!g.contains p)) := by
  refine ev_opP (ep_ev ha) (stt_V _).x hb fun x y H1 e hx hy => ?_
  obtain ⟨a, rfl, ha⟩ := hy
  have hx : x = nV p := hx
  subst hx
  have := rv_niL (K := K) (x := nV p) (sq_of ha) rfl (flat_eN g)
  rw [inV_eN] at this
  exact this
abbrev dG (g : List Nat) : List PyData := g.map fun (n : Nat) => PyData.int (n : Int)
theorem dpall_eN (g : List Nat) : DpAll K H (eN g) (dG g) := by
  induction g with
  | nil => exact .nil
  | cons a t ih => exact .cons (.int _) ih
theorem eqvAll_dG : ∀ g h : List Nat, PyData.eqvAll (dG g) (dG h) = decide (g = h)
  | [], [] => rfl
  | a :: g, b :: h => by
    show (PyData.eqv (.int (a : Int)) (.int (b : Int)) && PyData.eqvAll (dG g) (dG h)) = _
    rw [eqvAll_dG g h]
    show (((a : Int) == (b : Int)) && decide (g = h)) = decide (a :: g = b :: h)
    rw [Bool.eq_iff_iff, Bool.and_eq_true, beq_iff_eq, decide_eq_true_iff, decide_eq_true_iff, List.cons.injEq]
    constructor
    · rintro ⟨h1, h2⟩
      exact ⟨by omega, h2⟩
    · rintro ⟨h1, h2⟩
      exact ⟨by omega, h2⟩
  | [], _ :: _ => rfl
  | _ :: _, [] => rfl
theorem canLayAll_dG : ∀ g : List Nat, PyData.canLayAll0 (dG g) = true
  | [] => rfl
  | a :: g => by
    show (PyData.canLay0 (.int (a : Int)) && PyData.canLayAll0 (dG g)) = true
    rw [canLayAll_dG g]
    rfl
theorem depthAll_dG : ∀ g : List Nat, PyData.depthAll (dG g) ≤ 1
  | [] => by first | decide | exact Nat.zero_le _ | simp [PyData.depthAll]
  | a :: g => by
    have := depthAll_dG g
    simp only [dG, List.map_cons, PyData.depthAll, PyData.depth] at this ⊢
    omega
end
end CE

/-! CE3: ==, slices, +, items, dicts of groups. -/
namespace CE
open PySem L2 Evl

theorem depthAll_le {b : Nat} : ∀ {ds : List PyData}, (∀ d ∈ ds, d.depth ≤ b) → PyData.depthAll ds ≤ b
  | [], _ => Nat.zero_le _
  | d :: ds, h => by
    have h1 := h d (by simp)
    have h2 := depthAll_le (ds := ds) fun x hx => h x (by simp [hx])
    show max d.depth (PyData.depthAll ds) ≤ b
    omega
theorem canLayAll_of : ∀ {ds : List PyData}, (∀ d ∈ ds, d.canLay0 = true) → PyData.canLayAll0 ds = true
  | [], _ => rfl
  | d :: ds, h => by
    show (d.canLay0 && PyData.canLayAll0 ds) = true
    rw [h d (by simp), canLayAll_of fun x hx => h x (by simp [hx])]
    rfl
theorem canLay_G (g : List Nat) : (PyData.tuple (dG g)).canLay0 = true := canLayAll_of fun d hd => by
  obtain ⟨n, _, rfl⟩ := List.mem_map.mp hd
  rfl
theorem depth_G (g : List Nat) : (PyData.tuple (dG g)).depth ≤ 1 := by
  show PyData.depthAll (dG g) + 1 ≤ 1
  have := depthAll_le (b := 0) (ds := dG g) fun d hd => by
    obtain ⟨n, _, rfl⟩ := List.mem_map.mp hd
    exact Nat.le_refl _
  omega
theorem shaped_of {d : PyData} (h1 : d.canLay0 = true) (h2 : d.depth ≤ 64) : SeqAt.shaped d = true := by
  unfold SeqAt.shaped
  rw [h1, decide_eq_true h2]
  rfl
theorem shaped_G (g : List Nat) : SeqAt.shaped (.tuple (dG g)) = true := shaped_of (canLay_G g) (Nat.le_trans (depth_G g) (by decide))
theorem shaped_N (g : List Nat) : SeqAt.shaped (.list (dG g)) = true := shaped_of (canLay_G g) (Nat.le_trans (depth_G g) (by decide))
abbrev dGs (L : List (List Nat)) : List PyData := L.map fun g => PyData.tuple (dG g)
theorem canLay_Gs (L : List (List Nat)) : (PyData.list (dGs L)).canLay0 = true := canLayAll_of fun d hd => by
  obtain ⟨g, _, rfl⟩ := List.mem_map.mp hd
  exact canLay_G g
theorem depth_Gs (L : List (List Nat)) : (PyData.list (dGs L)).depth ≤ 2 := by
  show PyData.depthAll (dGs L) + 1 ≤ 2
  have := depthAll_le (b := 1) (ds := dGs L) fun d hd => by
    obtain ⟨g, _, rfl⟩ := List.mem_map.mp hd
    exact depth_G g
  omega
theorem shaped_Gs (L : List (List Nat)) : SeqAt.shaped (.list (dGs L)) = true := shaped_of (canLay_Gs L) (Nat.le_trans (depth_Gs L) (by decide))
theorem shaped_TG (L : List (List Nat)) : SeqAt.shaped (.tuple (dGs L)) = true := shaped_of (canLay_Gs L) (Nat.le_trans (depth_Gs L) (by decide))
theorem eqvAll_dGs : ∀ L M : List (List Nat), PyData.eqvAll (dGs L) (dGs M) = decide (L = M)
  | [], [] => rfl
  | a :: g, b :: h => by
    show (PyData.eqvAll (dG a) (dG b) && PyData.eqvAll (dGs g) (dGs h)) = _
    rw [eqvAll_dGs g h, eqvAll_dG a b]
    rw [Bool.eq_iff_iff, Bool.and_eq_true, decide_eq_true_iff, decide_eq_true_iff, decide_eq_true_iff, List.cons.injEq]
  | [], _ :: _ => rfl
  | _ :: _, [] => rfl
section
variable {K : PySem.W.Frag} {σ : L2.St} {H H' : Hp} {ta tb te : TE} {t u : TT} {P P' R : VP} {x y z v : V}
theorem dp_G {g : List Nat} (h : IsG g v H) : Dp K H v (.tuple (dG g)) := by
  obtain ⟨a, rfl, ha⟩ := h
  exact .tup (st_of ha) (dpall_eN g)
theorem dp_N {g : List Nat} (h : IsN g v H) : Dp K H v (.list (dG g)) := by
  obtain ⟨a, rfl, ha⟩ := h
  exact .lst (sq_of ha) (dpall_eN g)
theorem dpall_Gs : ∀ {L : List (List Nat)} {vs : List V}, AllP (L.map IsG) vs H → DpAll K H vs (dGs L)
  | [], [], _ => .nil
  | g :: L, v :: vs, h => .cons (dp_G h.1) (dpall_Gs h.2)
  | [], _ :: _, h => h.elim
  | _ :: _, [], h => h.elim
theorem dp_Gs {L : List (List Nat)} (h : IsGs L v H) : Dp K H v (.list (dGs L)) := by
  obtain ⟨a, xs, rfl, ha, hx⟩ := h
  exact .lst (sq_of ha) (dpall_Gs hx)
theorem dp_TG {L : List (List Nat)} (h : IsTG L v H) : Dp K H v (.tuple (dGs L)) := by
  obtain ⟨a, xs, rfl, ha, hx⟩ := h
  exact .tup (st_of ha) (dpall_Gs hx)
theorem rv_eqD {d e : PyData} {b : Bool} (hd : ∀ H1, Ex H H1 → Dp K H1 x d) (he : ∀ H1, Ex H H1 → Dp K H1 y e) (s1 : SeqAt.shaped d = true) (s2 : SeqAt.shaped e = true) (hb : PyData.eqv d e = b) : RV (rEqD K) x y H (.bl b) :=
  fun H1 e1 Q q => ⟨d, e, hd H1 e1, he H1 e1, s1, s2, by rw [hb]; exact q H1 (Ex.refl H1)⟩
theorem rv_neD {d e : PyData} {b : Bool} (hd : ∀ H1, Ex H H1 → Dp K H1 x d) (he : ∀ H1, Ex H H1 → Dp K H1 y e) (s1 : SeqAt.shaped d = true) (s2 : SeqAt.shaped e = true) (hb : PyData.eqv d e = b) : RV (rNeD K) x y H (.bl (!b)) :=
  fun H1 e1 Q q => ⟨d, e, hd H1 e1, he H1 e1, s1, s2, by rw [hb]; exact q H1 (Ex.refl H1)⟩
theorem ev_eqG {g h : List Nat} (ha : EvP ta σ H (IsG g)) (hb : EvP tb σ H (IsG h)) : Ev (tOp (rEqD K) ta tb) σ H (.bl (decide (g = h))) :=
  ev_opP ha (stt_G g).x hb fun x y H1 e hx hy => rv_eqD (fun H2 e2 => dp_G ((stt_G g).x _ _ _ e2 hx)) (fun H2 e2 => dp_G ((stt_G h).x _ _ _ e2 hy)) (shaped_G g) (shaped_G h) (eqvAll_dG g h)
theorem ev_neG {g h : List Nat} (ha : EvP ta σ H (IsG g)) (hb : EvP tb σ H (IsG h)) : Ev (tOp (rNeD K) ta tb) σ H (.bl (!decide (g = h))) :=
  ev_opP ha (stt_G g).x hb fun x y H1 e hx hy => rv_neD (fun H2 e2 => dp_G ((stt_G g).x _ _ _ e2 hx)) (fun H2 e2 => dp_G ((stt_G h).x _ _ _ e2 hy)) (shaped_G g) (shaped_G h) (eqvAll_dG g h)
theorem ev_eqN {g h : List Nat} (ha : EvP ta σ H (IsN g)) (hb : EvP tb σ H (IsN h)) : Ev (tOp (rEqD K) ta tb) σ H (.bl (decide (g = h))) :=
  ev_opP ha (stx_N g) hb fun x y H1 e hx hy => rv_eqD (fun H2 e2 => dp_N (stx_N g _ _ _ e2 hx)) (fun H2 e2 => dp_N (stx_N h _ _ _ e2 hy)) (shaped_N g) (shaped_N h) (eqvAll_dG g h)
theorem ev_eqGs {g h : List (List Nat)} (ha : EvP ta σ H (IsGs g)) (hb : EvP tb σ H (IsGs h)) : Ev (tOp (rEqD K) ta tb) σ H (.bl (decide (g = h))) :=
  ev_opP ha (stx_Gs g) hb fun x y H1 e hx hy => rv_eqD (fun H2 e2 => dp_Gs (stx_Gs g _ _ _ e2 hx)) (fun H2 e2 => dp_Gs (stx_Gs h _ _ _ e2 hy)) (shaped_Gs g) (shaped_Gs h) (eqvAll_dGs g h)
theorem ev_neGs {g h : List (List Nat)} (ha : EvP ta σ H (IsGs g)) (hb : EvP tb σ H (IsGs h)) : Ev (tOp (rNeD K) ta tb) σ H (.bl (!decide (g = h))) :=
  ev_opP ha (stx_Gs g) hb fun x y H1 e hx hy => rv_neD (fun H2 e2 => dp_Gs (stx_Gs g _ _ _ e2 hx)) (fun H2 e2 => dp_Gs (stx_Gs h _ _ _ e2 hy)) (shaped_Gs g) (shaped_Gs h) (eqvAll_dGs g h)
theorem ev_eqTG {g h : List (List Nat)} (ha : EvP ta σ H (IsTG g)) (hb : EvP tb σ H (IsTG h)) : Ev (tOp (rEqD K) ta tb) σ H (.bl (decide (g = h))) :=
  ev_opP ha (stt_TG g).x hb fun x y H1 e hx hy => rv_eqD (fun H2 e2 => dp_TG ((stt_TG g).x _ _ _ e2 hx)) (fun H2 e2 => dp_TG ((stt_TG h).x _ _ _ e2 hy)) (shaped_TG g) (shaped_TG h) (eqvAll_dGs g h)
theorem ev_neTG {g h : List (List Nat)} (ha : EvP ta σ H (IsTG g)) (hb : EvP tb σ H (IsTG h)) : Ev (tOp (rNeD K) ta tb) σ H (.bl (!decide (g = h))) :=
  ev_opP ha (stt_TG g).x hb fun x y H1 e hx hy => rv_neD (fun H2 e2 => dp_TG ((stt_TG g).x _ _ _ e2 hx)) (fun H2 e2 => dp_TG ((stt_TG h).x _ _ _ e2 hy)) (shaped_TG g) (shaped_TG h) (eqvAll_dGs g h)
theorem isG_nil : EvP (tTup tNil) σ H (IsG []) := fun H1 e Q q => ⟨Nat.zero_le _, fun p hp => q (.ref p) _ (Ex.new hp) ⟨p, rfl, upd_same⟩⟩
theorem isGs_nil : EvP (tLst tNil) σ H (IsGs []) := fun H1 e Q q => ⟨Nat.zero_le _, fun p hp => q (.ref p) _ (Ex.new hp) ⟨p, [], rfl, upd_same, trivial⟩⟩
theorem ep_one {p : Nat} (h : Ev te σ H (nV p)) : EvP (tTup (tCons te tNil)) σ H (IsG [p]) := fun H1 e Q q => h H1 e _ fun H2 e2 =>
  ⟨by show 1 ≤ sizeLine; decide, fun l hl => q (.ref l) _ (e2.trans (Ex.new hl)) ⟨l, rfl, upd_same⟩⟩
/-! slices -/
def cutN (g : List Nat) (lo hi : Option Int) : List Nat := (g.drop (HT.sIx g.length 0 lo)).take (HT.sIx g.length g.length hi - HT.sIx g.length 0 lo)
theorem cutV_eN (g : List Nat) (lo hi : Option Int) : cutV (eN g) lo hi = eN (cutN g lo hi) := by
  unfold cutV cutN eN
  rw [List.map_take, List.map_drop, List.length_map]
theorem cutN_take (g : List Nat) (k : Nat) : cutN g none (some (k : Int)) = g.take k := by
  unfold cutN
  rw [HT.sIx_none, HT.sIx_nat, List.drop_zero, Nat.sub_zero]
  by_cases h : k ≤ g.length
  · rw [Nat.min_eq_left h]
  · rw [Nat.min_eq_right (by omega), List.take_of_length_le (Nat.le_refl _), List.take_of_length_le (by omega)]
theorem cutN_drop (g : List Nat) (k : Nat) : cutN g (some (k : Int)) none = g.drop k := by
  unfold cutN
  rw [HT.sIx_none, HT.sIx_nat]
  by_cases h : k ≤ g.length
  · rw [Nat.min_eq_left h, List.take_of_length_le (by rw [List.length_drop]; omega)]
  · rw [Nat.min_eq_right (by omega), Nat.sub_self, List.take_zero, List.drop_eq_nil_of_le (by omega)]
theorem sIx_neg (n d : Nat) (h : 0 < n) : HT.sIx n d (some (-1)) = n - 1 := by
  show (if (-1 : Int) < 0 then ((-1 : Int) + (n : Int)).toNat else min (-1 : Int).toNat n) = n - 1
  rw [if_pos (by decide)]
  omega
theorem cutN_init (g : List Nat) (p : Nat) : cutN (g ++ [p]) none (some (-1)) = g := by
  unfold cutN
  rw [HT.sIx_none, sIx_neg _ _ (by simp), List.drop_zero, Nat.sub_zero, List.length_append]
  show List.take (g.length + 1 - 1) _ = _
  rw [Nat.add_sub_cancel, List.take_left]
theorem cutN_last (g : List Nat) (p : Nat) : cutN (g ++ [p]) (some (-1)) none = [p] := by
  unfold cutN
  rw [HT.sIx_none, sIx_neg _ _ (by simp), List.length_append]
  show List.take (g.length + 1 - (g.length + 1 - 1)) (List.drop (g.length + 1 - 1) _) = _
  rw [Nat.add_sub_cancel, List.drop_left]
  have : g.length + 1 - g.length = 1 := by omega
  rw [this]
  rfl
theorem ep_slG {g : List Nat} {tl th : TO} {lo hi : Option Int} (h : EvP te σ H (IsG g)) (h1 : EvO tl σ H lo) (h2 : EvO th σ H hi) : EvP (tSl (rSlA K) te tl th) σ H (IsG (cutN g lo hi)) := fun H1 e Q q =>
  h H1 e _ fun v H2 e2 ⟨a, hv, ha⟩ => h1 H2 (e.trans e2) _ fun H3 e3 => h2 H3 ((e.trans e2).trans e3) _ fun H4 e4 => by
    subst hv
    have ha4 := e4 a _ (e3 a _ ha)
    refine ⟨a, eN g, rfl, st_of ha4, fun hw => q (.ref a) H4 ((e2.trans e3).trans e4) ⟨a, rfl, ?_⟩, fun hw p hp => q (.ref p) _ (((e2.trans e3).trans e4).trans (Ex.new hp)) ⟨p, rfl, ?_⟩⟩
    · rw [← cutV_eN]
      have : cutV (eN g) lo hi = eN g := by
        unfold cutV
        rw [hw.1, hw.2, List.drop_zero, Nat.sub_zero, List.take_length]
      rw [this]
      exact ha4
    · rw [upd_same, cutV_eN]
theorem ep_catG {g h : List Nat} (ha : EvP ta σ H (IsG g)) (hb : EvP tb σ H (IsG h)) (hl : g.length + h.length ≤ 100000) : EvP (tOp (rCatA K) ta tb) σ H (IsG (g ++ h)) :=
  ep_op ha (stt_G g).x hb fun x y H1 e ⟨a, hx, ha⟩ ⟨b, hy, hb⟩ H2 e2 Q q => by
    subst hx hy
    refine ⟨a, b, eN g, eN h, rfl, rfl, st_of (e2 a _ ha), st_of (e2 b _ hb), sz_of (by simpa using hl), fun z => q (.ref b) H2 (Ex.refl H2) ⟨b, rfl, ?_⟩, fun _ z => q (.ref a) H2 (Ex.refl H2) ⟨a, rfl, ?_⟩, fun _ _ p hp => q (.ref p) _ (Ex.new hp) ⟨p, rfl, ?_⟩⟩
    · have : g = [] := by simpa using z
      rw [this]
      exact e2 b _ hb
    · have : h = [] := by simpa using z
      rw [this, List.append_nil]
      exact e2 a _ ha
    · rw [upd_same]
      simp [eN]
/-! items -/
theorem ev_ixG {g : List Nat} {i : Nat} (ha : EvP ta σ H (IsG g)) (hb : Ev tb σ H (nV i)) (hi : i < g.length) : Ev (tOp (rIxT K) ta tb) σ H (nV (g.getD i 0)) := by
  refine ev_opP ha (stt_G g).x (ep_ev hb) fun x y H1 e hx hy => ?_
  obtain ⟨a, rfl, ha⟩ := hx
  have hy : y = nV i := hy
  subst hy
  refine rv_ixT (st_of ha) (atI_nat ?_)
  rw [List.getElem?_map, List.getElem?_eq_getElem hi, CL_getD hi]
  rfl
where CL_getD {g : List Nat} {i : Nat} (h : i < g.length) : g.getD i 0 = g[i] := by rw [List.getD_eq_getElem?_getD, List.getElem?_eq_getElem h]; rfl
theorem ev_ixLast {g : List Nat} {p : Nat} (ha : EvP ta σ H (IsG (g ++ [p]))) (hb : Ev tb σ H (.int (-1))) : Ev (tOp (rIxT K) ta tb) σ H (nV p) := by
  refine ev_opP ha (stt_G _).x (ep_ev hb) fun x y H1 e hx hy => ?_
  obtain ⟨a, rfl, ha⟩ := hx
  have hy : y = .int (-1) := hy
  subst hy
  refine rv_ixT (st_of ha) ?_
  rw [eN, List.map_append]
  exact atI_last _ _
/-- an item of a list, of a tuple -/
theorem ep_ixL {Ps : List VP} {i : Nat} {P : VP} (ha : EvP ta σ H (IsL Ps)) (s : ∀ P ∈ Ps, Stx P) (hb : Ev tb σ H (nV i)) (hi : Ps[i]? = some P) : EvP (tOp (rIxL K) ta tb) σ H P := by
  refine ep_op ha (stx_L s) (ep_ev hb) fun x y H1 e ⟨a, xs, hx, ha, hp⟩ hy H2 e2 Q q => ?_
  subst hx
  have hy : y = nV i := hy
  subst hy
  obtain ⟨v, h1, h2⟩ := hp.get hi
  exact ⟨a, xs, (i : Int), v, rfl, rfl, sq_of (e2 a _ ha), atI_nat h1, q v H2 (Ex.refl H2) (s P (List.mem_of_getElem? hi) v H1 H2 e2 h2)⟩
theorem ep_ixLlast {Ps : List VP} {P : VP} (ha : EvP ta σ H (IsL (Ps ++ [P]))) (s : ∀ Q ∈ Ps ++ [P], Stx Q) (hb : Ev tb σ H (.int (-1))) : EvP (tOp (rIxL K) ta tb) σ H P := by
  refine ep_op ha (stx_L s) (ep_ev hb) fun x y H1 e ⟨a, xs, hx, ha, hp⟩ hy H2 e2 Q q => ?_
  subst hx
  have hy : y = .int (-1) := hy
  subst hy
  have hl := hp.len
  obtain ⟨v, h1, h2⟩ := hp.get (i := Ps.length) (P := P) (by simp)
  have e3 : xs = xs.take Ps.length ++ [v] := by
    have hlt : Ps.length < xs.length := (List.getElem?_eq_some_iff.mp h1).1
    have := List.take_add_one (l := xs) (i := Ps.length)
    rw [h1, List.take_of_length_le (by rw [hl, List.length_append]; exact Nat.le_refl _)] at this
    exact this
  refine ⟨a, xs, -1, v, rfl, rfl, sq_of (e2 a _ ha), ?_, q v H2 (Ex.refl H2) (s P (by simp) v H1 H2 e2 h2)⟩
  rw [e3]
  exact atI_last _ _
theorem ep_ixT {Ps : List VP} {i : Nat} {P : VP} (ha : EvP ta σ H (IsT Ps)) (s : ∀ P ∈ Ps, Stx P) (hb : Ev tb σ H (nV i)) (hi : Ps[i]? = some P) : EvP (tOp (rIxT K) ta tb) σ H P := by
  refine ep_op ha (stx_T s) (ep_ev hb) fun x y H1 e ⟨a, xs, hx, ha, hp⟩ hy H2 e2 Q q => ?_
  subst hx
  have hy : y = nV i := hy
  subst hy
  obtain ⟨v, h1, h2⟩ := hp.get hi
  exact ⟨a, xs, (i : Int), v, rfl, rfl, st_of (e2 a _ ha), atI_nat h1, q v H2 (Ex.refl H2) (s P (List.mem_of_getElem? hi) v H1 H2 e2 h2)⟩
/-! dicts by groups -/
def kG (g : List Nat) : List Key := g.map fun (n : Nat) => Sum.inl (n : Int)
theorem kV_kG (g : List Nat) : (kG g).map kV = eN g := by
  unfold kG
  rw [List.map_map]
  rfl
theorem kG_inj : ∀ {g h : List Nat}, kG g = kG h → g = h
  | [], [], _ => rfl
  | a :: g, b :: h, e => by
    unfold kG at e
    rw [List.map_cons, List.map_cons, List.cons.injEq] at e
    have e1 : (a : Int) = (b : Int) := Sum.inl.inj e.1
    rw [kG_inj (g := g) (h := h) e.2]
    have : a = b := by omega
    rw [this]
  | [], _ :: _, e => by cases e
  | _ :: _, [], e => by cases e
def dkv (L : List (List Nat)) (f : List Nat → V) : List (List Key × V) := L.map fun g => (kG g, f g)
/-- the dict of the groups of L, each with its f -/
def IsD (L : List (List Nat)) (f : List Nat → V) : VP := fun v H => ∃ a, v = .ref a ∧ H a = some (.dT (dkv L f))
theorem stx_D (L : List (List Nat)) (f : List Nat → V) : Stx (IsD L f) := fun v H H' e ⟨a, hv, ha⟩ => ⟨a, hv, e a _ ha⟩
theorem val_dkv (f : List Nat → V) (g : List Nat) : ∀ L : List (List Nat), valV (dkv L f) (kG g) = if L.contains g = true then some (f g) else none
  | [] => rfl
  | h :: L => by
    by_cases e : h = g
    · subst e
      show valV ((kG h, f h) :: dkv L f) (kG h) = _
      rw [valV_pos rfl, if_pos (by simp)]
    · show valV ((kG h, f h) :: dkv L f) (kG g) = _
      rw [valV_neg (fun z => e (kG_inj z)), val_dkv f g L]
      have : (h :: L).contains g = L.contains g := by
        rw [List.contains_cons]
        have : (g == h) = false := by simpa using fun z : g = h => e z.symm
        rw [this, Bool.false_or]
      rw [this]
theorem put_dkv (f : List Nat → V) {g : List Nat} {L : List (List Nat)} {v : V} (h : L.contains g = false) (e : v = f g) : putK (dkv L f) (kG g) v = dkv (L ++ [g]) f := by
  rw [putK_new _ (by rw [val_dkv, h]; rfl), e]
  unfold dkv
  rw [List.map_append]
  rfl
theorem ev_dIn {L : List (List Nat)} {f : List Nat → V} {g : List Nat} (ha : EvP ta σ H (IsG g)) (hb : EvP tb σ H (IsD L f)) : Ev (tDIn ta tb) σ H (.bl (L.contains g)) := fun H1 e Q q =>
  ha H1 e _ fun v H2 e2 ⟨a, hv, ha⟩ => hb H2 (e.trans e2) _ fun w H3 e3 ⟨b, hw, hb⟩ => by
    subst hv hw
    refine ⟨b, _, rfl, DGet.t (k := kG g) hb (by rw [kV_kG]; exact e3 a _ ha), ?_⟩
    rw [val_dkv]
    have e0 : (if L.contains g = true then some (f g) else none).isSome = L.contains g := by
      cases L.contains g <;> rfl
    rw [e0]
    exact q H3 (e2.trans e3)
theorem ev_dGet {L : List (List Nat)} {f : List Nat → V} {g : List Nat} (hb : EvP tb σ H (IsD L f)) (ha : EvP ta σ H (IsG g)) (hg : L.contains g = true) : Ev (tDGet tb ta) σ H (f g) := fun H1 e Q q =>
  hb H1 e _ fun w H2 e2 ⟨b, hw, hb⟩ => ha H2 (e.trans e2) _ fun v H3 e3 ⟨a, hv, ha⟩ => by
    subst hv hw
    refine ⟨b, f g, rfl, ?_, q H3 (e2.trans e3)⟩
    have := DGet.t (k := kG g) (e3 b _ hb) (show H3 a = some (.tup ((kG g).map kV)) by rw [kV_kG]; exact ha)
    rw [val_dkv, hg] at this
    exact this
/-- d[g] = v, g new -/
theorem s_dput {L : List (List Nat)} {f : List Nat → V} {g : List Nat} {d : Addr} {D : Ends} (hv : Ev te σ H (f g)) (hb : Ev tb σ H (.ref d)) (hd : H d = some (.dT (dkv L f))) (ha : EvP ta σ H (IsG g)) (hg : L.contains g = false) (hl : L.length < 100000)
    (k : ∀ H1, Ex H H1 → D.nx σ (upd H1 d (.dT (dkv (L ++ [g]) f)))) : sDPut tb ta te D σ H := hv H (Ex.refl H) _ fun H1 e1 => hb H1 e1 _ fun H2 e2 => ha H2 (e1.trans e2) _ fun v H3 e3 ⟨a, hva, ha⟩ => by
    subst hva
    have hd3 := e3 d _ (e2 d _ (e1 d _ hd))
    refine ⟨d, _, rfl, DPut.t (k := kG g) hd3 (by rw [kV_kG]; exact ha) ?_, ?_⟩
    · have : (dkv L f).length = L.length := by unfold dkv; simp
      rw [this]
      exact sz_lt hl
    · rw [put_dkv f hg rfl]
      exact k H3 ((e1.trans e2).trans e3)
end
end CE

/-! CE4: comprehensions as the mirror says them. -/
namespace CE
open PySem L2 Evl
section
variable {α : Type} {K : PySem.W.Frag} {σ : L2.St} {H H' : Hp} {te tl : TE} {ta : TA} {t : TT} {j j1 j2 : Nat} {vs : List Nat}
/-- the word of the i-th item -/
def atF (xs : List α) (p : α → Bool) (i : Nat) : Bool := ((xs[i]?).map p).getD false
def atR (xs : List α) (R : α → VP) (i : Nat) : VP := ((xs[i]?).map R).getD (IsV .non)
theorem atF_at {xs : List α} {p : α → Bool} {i : Nat} {a : α} (h : xs[i]? = some a) : atF xs p i = p a := by unfold atF; rw [h]; rfl
theorem atR_at {xs : List α} {R : α → VP} {i : Nat} {a : α} (h : xs[i]? = some a) : atR xs R i = R a := by unfold atR; rw [h]; rfl
theorem atR_st {xs : List α} {R : α → VP} (h : ∀ a, Stt (R a)) (i : Nat) : Stt (atR xs R i) := by
  unfold atR
  cases xs[i]? with
  | none => exact stt_V _
  | some a => exact h a
theorem given_at {xs : List α} {p : α → Bool} {R : α → VP} : givenP xs.length (atF xs p) (atR xs R) = (xs.filter p).map R := by
  have := givenP_eq (xs := xs) (f := atF xs p) (R := atR xs R) (p := p) (m := id) (S := R) fun i x e => ⟨atF_at e, atR_at e⟩
  rw [this, List.map_id]
theorem map_get {xs : List α} {S : α → VP} {i : Nat} {P : VP} (h : (xs.map S)[i]? = some P) : ∃ a, xs[i]? = some a ∧ P = S a := by
  rw [List.getElem?_map] at h
  obtain ⟨a, h1, h2⟩ := Option.map_eq_some_iff.mp h
  exact ⟨a, h1, h2.symm⟩
theorem lcL (xs : List α) (S R : α → VP) (p : α → Bool) (h : EvP tl σ H (IsL (xs.map S))) (hs : ∀ a, Stx (S a)) (hR : ∀ a, Stt (R a)) (hz : xs.length ≤ 40000) (hw : ∀ x, wipe ((wipe σ vs).set j (some x)) vs = wipe σ vs)
    (ht : ∀ a v H1, a ∈ xs → Ex H H1 → S a v H1 → EvT t ((wipe σ vs).set j (some v)) H1 (p a)) (he : ∀ a v H1, a ∈ xs → Ex H H1 → S a v H1 → p a = true → EvP te ((wipe σ vs).set j (some v)) H1 (R a)) :
    EvP (tLc (iList K tl) (gName j) t te vs) σ H (IsL ((xs.filter p).map R)) := fun H0 e Q q => h H0 e _ fun v H1 e1 pl => by
  obtain ⟨a, ys, rfl, hx, hy⟩ := pl
  have hl := hy.len
  rw [List.length_map] at hl
  refine ⟨a, rfl, ⟨ys, sq_of hx⟩, fun D hD => ?_⟩
  have item : ∀ {i : Nat} {x : V} {Hb : Hp}, ys[i]? = some x → Ex H1 Hb → ∃ a, xs[i]? = some a ∧ a ∈ xs ∧ S a x Hb := fun {i x Hb} hi eb => by
    obtain ⟨P, h1, h2⟩ := hy.at_ hi
    obtain ⟨b, hb, rfl⟩ := map_get h1
    exact ⟨b, hb, List.mem_of_getElem? hb, hs b _ _ _ eb h2⟩
  refine lcW (σ := σ) (walk_list (xs := ys)) (atF xs p) (atR xs R) (fun Ha Hb ee g => ex_l ee g) (by omega) (atR_st hR) (sq_of hx) (fun i x Ha Hb hi ea y k hk => ?_) (fun v H2 e2 r => q v H2 (e1.trans e2) ?_) D hD
  · obtain ⟨rfl, hxi⟩ := y
    obtain ⟨b, h1, h2, h3⟩ := item hxi ea
    refine hk _ Hb (Ex.refl _) (hw x) ?_ fun hf => ?_
    · rw [atF_at h1]
      exact ht b x Hb h2 ((e.trans e1).trans ea) h3
    · rw [atF_at h1] at hf
      rw [atR_at h1]
      exact he b x Hb h2 ((e.trans e1).trans ea) h3 hf
  · rw [hl, given_at] at r
    exact r
theorem lcT (xs : List α) (S R : α → VP) (p : α → Bool) (h : EvP tl σ H (IsT (xs.map S))) (hs : ∀ a, Stx (S a)) (hR : ∀ a, Stt (R a)) (hz : xs.length ≤ 40000) (hw : ∀ x, wipe ((wipe σ vs).set j (some x)) vs = wipe σ vs)
    (ht : ∀ a v H1, a ∈ xs → Ex H H1 → S a v H1 → EvT t ((wipe σ vs).set j (some v)) H1 (p a)) (he : ∀ a v H1, a ∈ xs → Ex H H1 → S a v H1 → p a = true → EvP te ((wipe σ vs).set j (some v)) H1 (R a)) :
    EvP (tLc (iTup K tl) (gName j) t te vs) σ H (IsL ((xs.filter p).map R)) := fun H0 e Q q => h H0 e _ fun v H1 e1 pl => by
  obtain ⟨a, ys, rfl, hx, hy⟩ := pl
  have hl := hy.len
  rw [List.length_map] at hl
  refine ⟨a, rfl, ⟨ys, st_of hx⟩, fun D hD => ?_⟩
  have item : ∀ {i : Nat} {x : V} {Hb : Hp}, ys[i]? = some x → Ex H1 Hb → ∃ a, xs[i]? = some a ∧ a ∈ xs ∧ S a x Hb := fun {i x Hb} hi eb => by
    obtain ⟨P, h1, h2⟩ := hy.at_ hi
    obtain ⟨b, hb, rfl⟩ := map_get h1
    exact ⟨b, hb, List.mem_of_getElem? hb, hs b _ _ _ eb h2⟩
  refine lcW (σ := σ) (walk_tup (xs := ys)) (atF xs p) (atR xs R) (fun Ha Hb ee g => ex_t ee g) (by omega) (atR_st hR) (st_of hx) (fun i x Ha Hb hi ea y k hk => ?_) (fun v H2 e2 r => q v H2 (e1.trans e2) ?_) D hD
  · obtain ⟨rfl, hxi⟩ := y
    obtain ⟨b, h1, h2, h3⟩ := item hxi ea
    refine hk _ Hb (Ex.refl _) (hw x) ?_ fun hf => ?_
    · rw [atF_at h1]
      exact ht b x Hb h2 ((e.trans e1).trans ea) h3
    · rw [atF_at h1] at hf
      rw [atR_at h1]
      exact he b x Hb h2 ((e.trans e1).trans ea) h3 hf
  · rw [hl, given_at] at r
    exact r
theorem isT_of_G {g : List Nat} {v : V} {H : Hp} (h : IsG g v H) : IsT (g.map fun n => IsV (nV n)) v H := by
  obtain ⟨a, hv, ha⟩ := h
  refine ⟨a, eN g, hv, ha, ?_⟩
  have : g.map (fun n => IsV (nV n)) = (eN g).map IsV := by rw [List.map_map]; rfl
  rw [this]
  exact allV_mk _
theorem isL_of_N {g : List Nat} {v : V} {H : Hp} (h : IsN g v H) : IsL (g.map fun n => IsV (nV n)) v H := by
  obtain ⟨a, hv, ha⟩ := h
  refine ⟨a, eN g, hv, ha, ?_⟩
  have : g.map (fun n => IsV (nV n)) = (eN g).map IsV := by rw [List.map_map]; rfl
  rw [this]
  exact allV_mk _
/-- over a group -/
theorem lcG (g : List Nat) (R : Nat → VP) (p : Nat → Bool) (h : EvP tl σ H (IsG g)) (hR : ∀ a, Stt (R a)) (hz : g.length ≤ 40000) (hw : ∀ x, wipe ((wipe σ vs).set j (some x)) vs = wipe σ vs)
    (ht : ∀ a H1, a ∈ g → Ex H H1 → EvT t ((wipe σ vs).set j (some (nV a))) H1 (p a)) (he : ∀ a H1, a ∈ g → Ex H H1 → p a = true → EvP te ((wipe σ vs).set j (some (nV a))) H1 (R a)) :
    EvP (tLc (iTup K tl) (gName j) t te vs) σ H (IsL ((g.filter p).map R)) :=
  lcT g (fun n => IsV (nV n)) R p (h.imp fun v H1 _ r => isT_of_G r) (fun a => (stt_V _).x) hR hz hw (fun a v H1 ha e hv => by
    have hv : v = nV a := hv
    subst hv
    exact ht a H1 ha e) fun a v H1 ha e hv hp => by
    have hv : v = nV a := hv
    subst hv
    exact he a H1 ha e hp
/-- over range(n) -/
theorem lcRg (n : Nat) (R : Nat → VP) (p : Nat → Bool) (h : EvA ta σ H [nV n]) (hR : ∀ a, Stt (R a)) (hz : n ≤ 40000) (hw : ∀ x, wipe ((wipe σ vs).set j (some x)) vs = wipe σ vs)
    (ht : ∀ a H1, a < n → Ex H H1 → EvT t ((wipe σ vs).set j (some (nV a))) H1 (p a)) (he : ∀ a H1, a < n → Ex H H1 → p a = true → EvP te ((wipe σ vs).set j (some (nV a))) H1 (R a)) :
    EvP (tLc (iRng1 ta) (gName j) t te vs) σ H (IsL (((List.range n).filter p).map R)) := by
  have := ep_lcR (t := t) (te := te) (σ := σ) (H := H) (j := j) (vs := vs) p R h ⟨by omega, by omega⟩ hR hw (fun i H1 e hi => ht i H1 (by omega) e) (fun i H1 e hi hf => he i H1 (by omega) e hf)
  unfold givenP at this
  rw [Int.toNat_natCast] at this
  exact this
/-- over range(z), z any int -/
theorem lcRz (z : Int) (R : Nat → VP) (p : Nat → Bool) (h : EvA ta σ H [.int z]) (hR : ∀ a, Stt (R a)) (hz : -40000 ≤ z ∧ z ≤ 40000) (hw : ∀ x, wipe ((wipe σ vs).set j (some x)) vs = wipe σ vs)
    (ht : ∀ (a : Nat) H1, (a : Int) < z → Ex H H1 → EvT t ((wipe σ vs).set j (some (nV a))) H1 (p a)) (he : ∀ (a : Nat) H1, (a : Int) < z → Ex H H1 → p a = true → EvP te ((wipe σ vs).set j (some (nV a))) H1 (R a)) :
    EvP (tLc (iRng1 ta) (gName j) t te vs) σ H (IsL (((List.range z.toNat).filter p).map R)) := fun H0 e Q q => h H0 e _ fun H1 e1 => by
  refine ⟨z, rfl, by omega, by omega, fun D hD => ?_⟩
  refine lcW (σ := σ) (walk_range (lo := 0) (n := z.toNat)) p R (fun _ _ _ _ => trivial) (by omega) hR trivial (fun i x Ha Hb hi ea y k hk => ?_) (fun v H2 e2 p => q v H2 (e1.trans e2) p) D hD
  obtain ⟨rfl, rfl⟩ := y
  have e0 : (0 : Int) + (i : Int) = (i : Int) := Int.zero_add _
  show k ((wipe σ vs).set j (some (.int ((0 : Int) + (i : Int))))) Hb
  rw [e0]
  exact hk _ Hb (Ex.refl _) (hw _) (ht i Hb (by omega) ((e.trans e1).trans ea)) (he i Hb (by omega) ((e.trans e1).trans ea))
/-- over enumerate of a tuple -/
theorem lcEn (xs : List α) (S : α → VP) (R : Nat → VP) (p : Nat → Bool) (h : EvP tl σ H (IsT (xs.map S))) (hs : ∀ a, Stx (S a)) (hR : ∀ a, Stt (R a)) (hz : xs.length ≤ 40000) (hw : ∀ x y, wipe (((wipe σ vs).set j1 (some x)).set j2 (some y)) vs = wipe σ vs)
    (ht : ∀ (i : Nat) a v H1, xs[i]? = some a → Ex H H1 → S a v H1 → EvT t (((wipe σ vs).set j1 (some (nV i))).set j2 (some v)) H1 (p i)) (he : ∀ (i : Nat) a v H1, xs[i]? = some a → Ex H H1 → S a v H1 → p i = true → EvP te (((wipe σ vs).set j1 (some (nV i))).set j2 (some v)) H1 (R i)) :
    EvP (tLc (CX.iEnumT K (tCons tl tNil)) (gTup K 2 (gCons (gName j1) (gCons (gName j2) gNil))) t te vs) σ H (IsL (((List.range xs.length).filter p).map R)) := fun H0 e Q q => h H0 e _ fun v H1 e1 pl => by
  obtain ⟨a, ys, rfl, hx, hy⟩ := pl
  have hl := hy.len
  rw [List.length_map] at hl
  refine ⟨a, ys, rfl, st_of hx, fun D hD => ?_⟩
  have item : ∀ {i : Nat} {x : V} {Hb : Hp}, ys[i]? = some x → Ex H1 Hb → ∃ a, xs[i]? = some a ∧ S a x Hb := fun {i x Hb} hi eb => by
    obtain ⟨P, h1, h2⟩ := hy.at_ hi
    obtain ⟨b, hb, rfl⟩ := map_get h1
    exact ⟨b, hb, hs b _ _ _ eb h2⟩
  refine lcW (σ := σ) (walk_enumT (xs := ys)) p R (fun Ha Hb ee g => ex_t ee g) (by omega) hR (st_of hx) (fun i x Ha Hb hi ea y k hk => ?_) (fun v H2 e2 r => q v H2 (e1.trans e2) ?_) D hD
  · obtain ⟨T, x1, x2, rfl, hT, rfl, h1, h2⟩ := y
    cases h1
    have ex : Ex Ha (upd Ha T (.tup [.int (i : Nat), x2])) := Ex.new hT
    obtain ⟨b, hb, hb2⟩ := item h2 (ea.trans ex)
    refine ⟨T, _, rfl, st_of upd_same, rfl, _, _, rfl, _, _, rfl, rfl, ?_⟩
    exact hk _ _ ex (hw _ _) (ht i b x2 _ hb (((e.trans e1).trans ea).trans ex) hb2) (he i b x2 _ hb (((e.trans e1).trans ea).trans ex) hb2)
  · unfold givenP at r
    rw [hl] at r
    exact r
/-- what a comprehension makes: ints, truth values, groups -/
theorem isN_map {g : List Nat} {v : V} {H : Hp} (h : IsL (g.map fun n => IsV (nV n)) v H) : IsN g v H := isN_of h
theorem isB_map {xs : List α} {f : α → Bool} {v : V} {H : Hp} (h : IsL (xs.map fun a => IsV (.bl (f a))) v H) : IsB (xs.map f) v H := isB_of h (by rw [List.map_map]; rfl)
theorem filter_yes (xs : List α) : xs.filter (fun _ => true) = xs := List.filter_eq_self.mpr fun _ _ => rfl
theorem et_yes : EvT tYes σ H true := fun H1 _ _ q => q H1 (Ex.refl H1)
end
end CE

/-! CE5: a comprehension of two clauses: a list, within it a range. -/
namespace CE
open PySem L2 Evl
section
variable {α : Type} {K : PySem.W.Frag} {σ : L2.St} {H H' : Hp} {te tl : TE} {ta : TA} {t : TT} {j j1 : Nat} {vs vs1 : List Nat}
/-- a new list -/
def EvN (te : TE) (σ : L2.St) (H : Hp) (Ps : List VP) : Prop := ∀ H1, Ex H H1 → ∀ Q : VK, (∀ p xs H2, H1 p = none → Ex H1 H2 → H2 p = some (.lst xs) → AllP Ps xs H2 → Q (.ref p) H2) → te σ H1 Q
theorem EvN.p {Ps : List VP} (h : EvN te σ H Ps) : EvP te σ H (IsL Ps) := fun H1 e Q q => h H1 e Q fun p xs H2 _ e2 hp hx => q (.ref p) H2 e2 ⟨p, xs, rfl, hp, hx⟩
theorem EvN.mono {Ps : List VP} (e : Ex H H') (h : EvN te σ H Ps) : EvN te σ H' Ps := fun H1 a Q q => h H1 (e.trans a) Q q
theorem en_lst {ta : TA} {Ps : List VP} (h : EvAP ta σ H Ps) (s : ∀ P ∈ Ps, Stx P) (hl : Ps.length ≤ 100000) : EvN (tLst ta) σ H Ps := fun H1 e _ q =>
  h H1 e _ fun vs H2 e2 p => ⟨sz_of (by rw [p.len]; exact hl), fun l hp => q l vs _ (fresh_back e2 hp) (e2.trans (Ex.new hp)) upd_same (p.ex (Ex.new hp) s)⟩
theorem n_asg {Ps : List VP} {D : Ends} {i : Nat} (h : EvN te σ H Ps) (k : ∀ p xs H1, H p = none → Ex H H1 → H1 p = some (.lst xs) → AllP Ps xs H1 → D.nx (σ.set i (some (.ref p))) H1) : tAsg te (gName i) D σ H := h H (Ex.refl H) _ k
theorem nq_asg {Ps : List VP} {D : Ends} {tz : TS} {i : Nat} (h : EvN te σ H Ps) (k : ∀ p xs H1, H p = none → Ex H H1 → H1 p = some (.lst xs) → AllP Ps xs H1 → tz D (σ.set i (some (.ref p))) H1) : tSeq (tAsg te (gName i)) tz D σ H := n_asg (D := { D with nx := tz D }) h k
/-- xs.extend(ys), two lists apart -/
theorem s_ext {D : Ends} {to : TE} {l b : Addr} {xs zs : List V} (ho : Ev to σ H (.ref l)) (hl : H l = some (.lst xs)) (hb : Ev tl σ H (.ref b)) (hz : H b = some (.lst zs)) (hn : xs.length + zs.length ≤ 100000) (k : ∀ H1, Ex H H1 → D.nx σ (upd H1 l (.lst (xs ++ zs)))) :
    tDrop (tBM K "list" rExtend to (tCons tl tNil)) D σ H := ho H (Ex.refl H) _ fun H1 e1 => ⟨Or.inl ⟨rfl, xs, sq_of (e1 l _ hl)⟩, hb H1 e1 _ fun H2 e2 => ⟨l, b, xs, zs, rfl, rfl, e2 l _ (e1 l _ hl), e2 b _ (e1 b _ hz), sz_of hn, k H2 (e1.trans e2)⟩⟩
theorem lc2R (xs : List α) (S : α → VP) (n : Nat) (R : α → Nat → VP) (p : α → Nat → Bool) (h : EvP tl σ H (IsL (xs.map S))) (hs : ∀ a, Stx (S a)) (hR : ∀ a b, Stt (R a b)) (hn : n ≤ 100) (hz : (xs.flatMap fun a => List.range n).length ≤ 40000)
    (hw : ∀ x, wipe ((wipe σ vs).set j (some x)) vs = wipe σ vs) (hw1 : ∀ x y, wipe ((wipe ((wipe σ vs).set j (some x)) vs1).set j1 (some y)) vs1 = wipe ((wipe σ vs).set j (some x)) vs1)
    (h1 : ∀ a v H1, a ∈ xs → Ex H H1 → S a v H1 → EvA ta ((wipe σ vs).set j (some v)) H1 [nV n])
    (ht : ∀ a v b H1, a ∈ xs → b < n → Ex H H1 → S a v H1 → EvT t ((wipe ((wipe σ vs).set j (some v)) vs1).set j1 (some (nV b))) H1 (p a b))
    (he : ∀ a v b H1, a ∈ xs → b < n → Ex H H1 → S a v H1 → p a b = true → EvP te ((wipe ((wipe σ vs).set j (some v)) vs1).set j1 (some (nV b))) H1 (R a b)) :
    EvN (tLc2 (iList K tl) (gName j) tYes (iRng1 ta) (gName j1) t te vs vs1) σ H (xs.flatMap fun a => ((List.range n).filter (p a)).map (R a)) := fun H0 e Q q => h H0 e _ fun v H1 e1 pl => by
  obtain ⟨a, ys, rfl, hx, hy⟩ := pl
  have hl := hy.len
  rw [List.length_map] at hl
  refine ⟨a, rfl, ⟨ys, sq_of hx⟩, fun D hD => ?_⟩
  have stM : ∀ (l : List α) P, P ∈ (l.flatMap fun a => ((List.range n).filter (p a)).map (R a)) → Stt P := fun l P hP => by
    obtain ⟨a, _, h2⟩ := List.mem_flatMap.mp hP
    obtain ⟨b, _, rfl⟩ := List.mem_map.mp h2
    exact hR a b
  have lenM : ∀ l : List α, (l.flatMap fun a => ((List.range n).filter (p a)).map (R a)).length ≤ (l.flatMap fun _ => List.range n).length := by
    intro l
    induction l with
    | nil => exact Nat.le_refl _
    | cons x l ih =>
      rw [List.flatMap_cons, List.flatMap_cons, List.length_append, List.length_append, List.length_map]
      have := List.length_filter_le (p x) (List.range n)
      omega
  have lenT : ∀ i, ((xs.take i).flatMap fun _ => List.range n).length ≤ 40000 := fun i => by
    refine Nat.le_trans ?_ hz
    have e : xs = xs.take i ++ xs.drop i := (List.take_append_drop i xs).symm
    have : (xs.flatMap fun _ => List.range n).length = ((xs.take i).flatMap fun _ => List.range n).length + ((xs.drop i).flatMap fun _ => List.range n).length := by
      rw [← List.length_append, ← List.flatMap_append, List.take_append_drop]
    omega
  refine ⟨fun i m H' => m = xs.length - i ∧ i ≤ xs.length ∧ Ex H1 H' ∧ ∃ acc, H' D = some (.lst acc) ∧ AllP ((xs.take i).flatMap fun a => ((List.range n).filter (p a)).map (R a)) acc H', ⟨xs.length, rfl, Nat.zero_le _, Ex.new hD, [], upd_same, trivial⟩, ?_⟩
  rintro i m Hi ⟨rfl, hi, ei, acc, hacc, hall⟩
  by_cases hlt : i < xs.length
  · right
    have hyi : ys[i]? = some (ys[i]'(by omega)) := List.getElem?_eq_getElem (by omega)
    refine ⟨⟨ys, _, sq_of (ei a _ hx), hyi⟩, fun H' => i + 1 ≤ xs.length ∧ Ex H1 H' ∧ ∃ acc, H' D = some (.lst acc) ∧ AllP ((xs.take (i + 1)).flatMap fun a => ((List.range n).filter (p a)).map (R a)) acc H', fun H' w => ⟨xs.length - (i + 1), by omega, rfl, w⟩, fun x H' y => ?_⟩
    obtain ⟨rfl, hxi⟩ := y
    have hxi := hxi ys (sq_of (ei a _ hx))
    obtain ⟨P, hP1, hP2⟩ := hy.at_ hxi
    obtain ⟨b, hb, rfl⟩ := map_get hP1
    have hbm : b ∈ xs := List.mem_of_getElem? hb
    have hS : S b x H' := hs b _ _ _ ei hP2
    have tk : xs.take (i + 1) = xs.take i ++ [b] := by rw [List.take_add_one, hb]; rfl
    refine ⟨hw x, ?_⟩
    unfold tYes
    try dsimp only
    rw [if_pos rfl]
    refine h1 b x H' hbm ((e.trans e1).trans ei) hS H' (Ex.refl _) _ fun H2 e2 => ⟨(n : Int), rfl, by omega, by omega, ?_⟩
    refine ⟨fun c k H3 => k = n - c ∧ c ≤ n ∧ Ex H1 H3 ∧ ∃ acc, H3 D = some (.lst acc) ∧ AllP (((xs.take i).flatMap fun a => ((List.range n).filter (p a)).map (R a)) ++ ((List.range c).filter (p b)).map (R b)) acc H3, ⟨n, rfl, Nat.zero_le _, ei.trans e2, acc, e2 D _ hacc, ?_⟩, ?_⟩
    · simp only [List.range_zero, List.filter_nil, List.map_nil, List.append_nil]
      exact hall.tx (tx_of e2) (stM _)
    rintro c k H3 ⟨rfl, hc, e3, acc3, hacc3, hall3⟩
    by_cases hcn : c < n
    · right
      refine ⟨by show c < (n : Int).toNat; omega, fun H' => c + 1 ≤ n ∧ Ex H1 H' ∧ ∃ acc, H' D = some (.lst acc) ∧ AllP (((xs.take i).flatMap fun a => ((List.range n).filter (p a)).map (R a)) ++ ((List.range (c + 1)).filter (p b)).map (R b)) acc H', fun H' w => ⟨n - (c + 1), by omega, rfl, w⟩, fun y H' z => ?_⟩
      obtain ⟨rfl, rfl⟩ := z
      have e0 : (0 : Int) + (c : Int) = (c : Int) := Int.zero_add _
      show wipe ((wipe ((wipe σ vs).set j (some x)) vs1).set j1 (some (.int ((0 : Int) + (c : Int))))) vs1 = wipe ((wipe σ vs).set j (some x)) vs1 ∧ t ((wipe ((wipe σ vs).set j (some x)) vs1).set j1 (some (.int ((0 : Int) + (c : Int))))) H' _
      rw [e0]
      refine ⟨hw1 x _, ?_⟩
      have hS3 : S b x H' := hs b _ _ _ e3 hP2
      refine ht b x c H' hbm hcn ((e.trans e1).trans e3) hS3 H' (Ex.refl _) _ fun H4 e4 => ?_
      have rs : List.range (c + 1) = List.range c ++ [c] := List.range_succ
      cases hp : p b c with
      | true =>
        rw [if_pos rfl]
        refine he b x c H' hbm hcn ((e.trans e1).trans e3) hS3 hp H4 e4 _ fun w H5 e5 hw5 => ?_
        have hD5 : H5 D = some (.lst acc3) := e5 D _ (e4 D _ hacc3)
        refine ⟨acc3, hD5, ?_, by omega, ?_, acc3 ++ [w], upd_same, ?_⟩
        · have l1 := hall3.len
          have l2 := lenM (xs.take i)
          have l3 := lenT i
          rw [List.length_append, List.length_map] at l1
          have l4 := List.length_filter_le (p b) (List.range c)
          rw [List.length_range] at l4
          exact sz_lt (by omega)
        · exact Ex.mut ((e3.trans e4).trans e5) hD
        · rw [rs, List.filter_append, List.map_append, ← List.append_assoc, List.filter_cons, if_pos hp]
          refine AllP.app ?_ ⟨hR b c w H5 _ (tx_lst hD5) hw5, trivial⟩
          refine hall3.tx ((tx_of (e4.trans e5)).trans (tx_lst hD5)) fun P hP => ?_
          rcases List.mem_append.mp hP with z | z
          · exact stM _ P z
          · obtain ⟨b', _, rfl⟩ := List.mem_map.mp z
            exact hR b b'
      | false =>
        rw [if_neg Bool.false_ne_true]
        refine ⟨by omega, e3.trans e4, acc3, e4 D _ hacc3, ?_⟩
        rw [rs, List.filter_append, List.map_append, ← List.append_assoc, List.filter_cons, if_neg (by rw [hp]; decide)]
        simp only [List.filter_nil, List.map_nil, List.append_nil]
        refine hall3.tx (tx_of e4) fun P hP => ?_
        rcases List.mem_append.mp hP with z | z
        · exact stM _ P z
        · obtain ⟨b', _, rfl⟩ := List.mem_map.mp z
          exact hR b b'
    · left
      have ec : c = n := by omega
      subst ec
      refine ⟨by show (c : Int).toNat ≤ c; omega, by omega, e3, acc3, hacc3, ?_⟩
      rw [tk, List.flatMap_append]
      simpa using hall3
  · left
    have ei' : i = xs.length := by omega
    subst ei'
    refine ⟨⟨ys, sq_of (ei a _ hx), by omega⟩, q D acc Hi (fresh_back e1 hD) (e1.trans ei) hacc ?_⟩
    rw [List.take_length] at hall
    exact hall
/-- a for over a list: H1 the heap in which the list stands -/
theorem s_forP {D : Ends} {tu : TS} (xs : List α) (S : α → VP) (h : EvP tl σ H (IsL (xs.map S))) (hs : ∀ a, Stx (S a)) (Pv : Hp → Nat → L2.St → Hp → Prop) (hE : ∀ H1 i σ' H', Ex H H1 → Pv H1 i σ' H' → Ex H1 H') (h0 : ∀ H1, Ex H H1 → Pv H1 0 σ H1)
    (ht : ∀ H1 i a v σ' H', Ex H H1 → xs[i]? = some a → S a v H' → Pv H1 i σ' H' → tu { D with nx := Pv H1 (i + 1), ct := Pv H1 (i + 1), bk := D.nx } (σ'.set j (some v)) H') (hd : ∀ H1 σ' H', Ex H H1 → Pv H1 xs.length σ' H' → D.nx σ' H') :
    tFor (iList K tl) (gName j) tu D σ H := h H (Ex.refl H) _ fun v H1 e1 ⟨a, ys, hv, hx, hy⟩ => by
  subst hv
  have hl := hy.len
  rw [List.length_map] at hl
  refine ⟨a, rfl, ⟨ys, sq_of hx⟩, for_list (xs := ys) (Pv H1) (h0 H1 e1) (fun i σ' H' _ p => sq_of (hE H1 i σ' H' e1 p a _ hx)) (fun i x σ' H' hi p => ?_) (fun σ' H' p => hd H1 σ' H' e1 (by rw [← hl]; exact p))⟩
  obtain ⟨P, hP1, hP2⟩ := hy.at_ hi
  obtain ⟨b, hb, rfl⟩ := map_get hP1
  exact ht H1 i b x σ' H' e1 hb (hs b _ _ _ (hE H1 i σ' H' e1 p) hP2) p
theorem q_forP {D : Ends} {tu tz : TS} (xs : List α) (S : α → VP) (h : EvP tl σ H (IsL (xs.map S))) (hs : ∀ a, Stx (S a)) (Pv : Hp → Nat → L2.St → Hp → Prop) (hE : ∀ H1 i σ' H', Ex H H1 → Pv H1 i σ' H' → Ex H1 H') (h0 : ∀ H1, Ex H H1 → Pv H1 0 σ H1)
    (ht : ∀ H1 i a v σ' H', Ex H H1 → xs[i]? = some a → S a v H' → Pv H1 i σ' H' → tu { D with nx := Pv H1 (i + 1), ct := Pv H1 (i + 1), bk := tz D } (σ'.set j (some v)) H') (hd : ∀ H1 σ' H', Ex H H1 → Pv H1 xs.length σ' H' → tz D σ' H') :
    tSeq (tFor (iList K tl) (gName j) tu) tz D σ H := s_forP (D := { D with nx := tz D }) xs S h hs Pv hE h0 ht hd
/-- lists and tuples stay -/
def LTx (H H' : Hp) : Prop := (∀ a xs, H a = some (.lst xs) → H' a = some (.lst xs)) ∧ Tx H H'
theorem LTx.of {H H' : Hp} (e : Ex H H') : LTx H H' := ⟨fun a xs h => e a _ h, tx_of e⟩
theorem LTx.trans {H H1 H2 : Hp} (a : LTx H H1) (b : LTx H1 H2) : LTx H H2 := ⟨fun x xs h => b.1 x xs (a.1 x xs h), a.2.trans b.2⟩
theorem LTx.dict {H : Hp} {p : Addr} {kvs : List (List Key × V)} {o : HO} (h : H p = some (.dT kvs)) : LTx H (upd H p o) :=
  ⟨fun a xs e => by rw [upd_ne (fun z => by rw [z, h] at e; cases e)]; exact e, tx_upd fun xs e => by rw [h] at e; cases e⟩
/-- a for over a list, where other things than lists and tuples may change -/
theorem s_forQ {D : Ends} {tu : TS} (xs : List α) (S : α → VP) (h : EvP tl σ H (IsL (xs.map S))) (hs : ∀ a, Stt (S a)) (Pv : Hp → Nat → L2.St → Hp → Prop) (hE : ∀ H1 i σ' H', Ex H H1 → Pv H1 i σ' H' → LTx H1 H') (h0 : ∀ H1, Ex H H1 → Pv H1 0 σ H1)
    (ht : ∀ H1 i a v σ' H', Ex H H1 → xs[i]? = some a → S a v H' → Pv H1 i σ' H' → tu { D with nx := Pv H1 (i + 1), ct := Pv H1 (i + 1), bk := D.nx } (σ'.set j (some v)) H') (hd : ∀ H1 σ' H', Ex H H1 → Pv H1 xs.length σ' H' → D.nx σ' H') :
    tFor (iList K tl) (gName j) tu D σ H := h H (Ex.refl H) _ fun v H1 e1 ⟨a, ys, hv, hx, hy⟩ => by
  subst hv
  have hl := hy.len
  rw [List.length_map] at hl
  refine ⟨a, rfl, ⟨ys, sq_of hx⟩, for_list (xs := ys) (Pv H1) (h0 H1 e1) (fun i σ' H' _ p => sq_of ((hE H1 i σ' H' e1 p).1 a _ hx)) (fun i x σ' H' hi p => ?_) (fun σ' H' p => hd H1 σ' H' e1 (by rw [← hl]; exact p))⟩
  obtain ⟨P, hP1, hP2⟩ := hy.at_ hi
  obtain ⟨b, hb, rfl⟩ := map_get hP1
  exact ht H1 i b x σ' H' e1 hb (hs b _ _ _ (hE H1 i σ' H' e1 p).2 hP2) p
theorem q_forQ {D : Ends} {tu tz : TS} (xs : List α) (S : α → VP) (h : EvP tl σ H (IsL (xs.map S))) (hs : ∀ a, Stt (S a)) (Pv : Hp → Nat → L2.St → Hp → Prop) (hE : ∀ H1 i σ' H', Ex H H1 → Pv H1 i σ' H' → LTx H1 H') (h0 : ∀ H1, Ex H H1 → Pv H1 0 σ H1)
    (ht : ∀ H1 i a v σ' H', Ex H H1 → xs[i]? = some a → S a v H' → Pv H1 i σ' H' → tu { D with nx := Pv H1 (i + 1), ct := Pv H1 (i + 1), bk := tz D } (σ'.set j (some v)) H') (hd : ∀ H1 σ' H', Ex H H1 → Pv H1 xs.length σ' H' → tz D σ' H') :
    tSeq (tFor (iList K tl) (gName j) tu) tz D σ H := s_forQ (D := { D with nx := tz D }) xs S h hs Pv hE h0 ht hd
/-- a, b = x, y -/
theorem s_par {D : Ends} {i k : Nat} {ta2 : TA} {Ps : VP} {Qs : VP} (h : EvAP ta2 σ H [Ps, Qs]) (kk : ∀ v w H1, Ex H H1 → Ps v H1 → Qs w H1 → D.nx ((σ.set i (some v)).set k (some w)) H1) : tPar i k ta2 D σ H := h H (Ex.refl H) _ fun vs H1 e p => by
  obtain ⟨v, w, rfl, h1, h2⟩ := allP2 p
  exact ⟨v, w, rfl, kk v w H1 e h1 h2⟩
theorem q_par {D : Ends} {tz : TS} {i k : Nat} {ta2 : TA} {Ps : VP} {Qs : VP} (h : EvAP ta2 σ H [Ps, Qs]) (kk : ∀ v w H1, Ex H H1 → Ps v H1 → Qs w H1 → tz D ((σ.set i (some v)).set k (some w)) H1) : tSeq (tPar i k ta2) tz D σ H := s_par (D := { D with nx := tz D }) h kk
/-- max of a list of ints -/
theorem ep_max {ns : List Int} (h : EvP tl σ H (IsL (ns.map fun i => IsV (.int i)))) (hn : 0 < ns.length) : EvP (tCB (rMax K) (tCons tl tNil)) σ H (fun v _ => ∃ m, v = .int m ∧ m ∈ ns ∧ ∀ y, y ∈ ns → y ≤ m) := fun H1 e Q q => h H1 e _ fun v H2 e2 ⟨a, xs, hv, ha, hx⟩ => by
  subst hv
  have e3 : ns.map (fun i => IsV (.int i)) = (ns.map V.int).map IsV := by rw [List.map_map]; rfl
  rw [e3] at hx
  rw [allV_eq hx] at ha
  exact ⟨a, ns, rfl, sq_of ha, hn, fun m h1 h2 => q _ H2 e2 ⟨m, rfl, h1, h2⟩⟩
end
end CE

/-! CW0: the text by places; what the top leaves; a def by its name. -/
namespace CW
open PySem L2
def top (i : Nat) : Stmt := PySem.Challenge.pw_crewlists_k29_whole_people_and_jobs_turn.main.body.getD i (.Pass ⟨0, 0, 0, 0⟩)
abbrev sIsInteger : Stmt := top 11
abbrev sIsBetween : Stmt := top 12
abbrev sIsListed : Stmt := top 13
abbrev sIsGroup : Stmt := top 14
abbrev sGroups : Stmt := top 15
abbrev sParts : Stmt := top 16
abbrev sOpen : Stmt := top 21
abbrev sShortage : Stmt := top 22
abbrev sStrengthOf : Stmt := top 23
abbrev sShortPart : Stmt := top 25
abbrev sStrength : Stmt := top 26
abbrev sDeals : Stmt := top 27
abbrev sDeal : Stmt := top 28
abbrev sPlaceable : Stmt := top 29
abbrev sBoth : Stmt := top 31
abbrev sJobs : Stmt := top 34
abbrev sInit : Stmt := inClass sJobs 0
abbrev sEq : Stmt := inClass sJobs 2
abbrev sAbs : Stmt := inClass sJobs 6
abbrev sOpenTo : Stmt := inClass sJobs 12
abbrev sPicked : Stmt := inClass sJobs 17
abbrev sTurned : Stmt := inClass sJobs 19
abbrev sBag : Stmt := top 36
abbrev sTake : Stmt := top 37
abbrev sOne : Stmt := top 38
abbrev sSome : Stmt := top 39
abbrev sJob : Stmt := top 40
abbrev sLJobs : Stmt := top 41
abbrev sLGroups : Stmt := top 42
abbrev sCan : Stmt := top 43
abbrev sCrews : Stmt := top 44
abbrev sLTurned : Stmt := top 45
abbrev sRight : Stmt := top 46
abbrev sFill : Stmt := top 47
abbrev sLaw : Stmt := top 48
/-- the built-ins are still the built-ins -/
structure Bf (mg : Str → Option Value) : Prop where
  len : mg "len" = none
  isinstance : mg "isinstance" = none
  int : mg "int" = none
  bool : mg "bool" = none
  list : mg "list" = none
  tuple : mg "tuple" = none
  all : mg "all" = none
  any : mg "any" = none
  range : mg "range" = none
  enumerate : mg "enumerate" = none
  max : mg "max" = none
  dict : mg "dict" = none
  zip : mg "zip" = none
  sorted : mg "sorted" = none
  abs : mg "abs" = none
/-- a def of the text stands under its name and keeps its promise -/
def Cal (P : Program) (w : World) (K : PySem.W.Frag) (mg : Str → Option Value) (base : Heap) (k : Nat) (x : Str) (ps : List Str) (sp : Sp) : Prop :=
  ∃ (f : Addr) (fd : FuncData), FnOk P w K mg base CX0 k f fd ps sp ∧ mg x = some (.ref f) ∧ PySem.W.keepIn K (.ref f) = true ∧ Binds K fd ps []
section
variable {X : Cx} {k : Nat} {x : Str} {ps : List Str} {sp : Sp} {e : Expr} {es : List Expr} {t : TA} {p pos : Pos}
theorem pe_fn (C : Cal X.prog X.w X.K X.mg X.base k x ps sp) (hr : Room k X.A) (ha : PA X (e :: es) t) (hg : Gl X x := by rfl) (hdb : (x == ("__debug__" : Str)) = false := by decide)
    (he : starEach (e :: es) X.env = (false, eval e X.env) :: starEach es X.env := by rfl) (hpl : (backTo pos (starEach es X.env)).any (·.1) = false := by rfl) : PE X (.Call (.Name x p) (e :: es) [] pos) (tCall sp [] E0 t) := by
  obtain ⟨f, fd, F, hm, hk, hb⟩ := C
  exact pe_call F hr hg hm hk hb .nil pass0 ha hdb he hpl
end
section
variable {P : Program} {w : World} {K : PySem.W.Frag} {mg : Str → Option Value} {base : Heap}
theorem cal_mk {k : Nat} {x qual : Str} {st : Stmt} {f : Addr} {fd : FuncData} {ps : List Str} {sp : Sp} (F : Fun K x qual st f fd) (h : FnOk P w K mg base CX0 k f fd ps sp) (hm : mg x = some (.ref f))
    (hb : ∀ (kV doc pm : Value) (an : Option Addr) (cdv ct : Value) (us : List Value), us.length = ps.length → bindArgs (PySem.W.fnOf x qual (defArgs st) (defBody st) (defScope st) .none kV doc pm an cdv ct) ⟨us, []⟩ = pure (ps.zip us)) :
    Cal P w K mg base k x ps sp := ⟨f, fd, h, hm, F.kp, F.binds hb⟩
end
end CW

/-! CK: the rules that name the written part, with it given by name (within a comprehension's block). -/
namespace CW
open PySem L2 CE
section
variable (K : PySem.W.Frag) {X : Cx} (hK : X.K = K)
include hK
theorem k_in' : OpR X (compareOp .In) (rIn K false) := by subst hK; exact op_in_seq
theorem k_ni' : OpR X (compareOp .NotIn) (rIn K true) := by subst hK; exact op_notIn_seq
theorem k_any' (hc : X.calm = true) : CallR X (.builtin "any") (rAny K) := by subst hK; exact cr_any hc
theorem k_all' (hc : X.calm = true) : CallR X (.builtin "all") (rAll K) := by subst hK; exact cr_all hc
theorem k_max' (hc : X.calm = true) : CallR X (.builtin "max") (rMax K) := by subst hK; exact cr_max hc
theorem k_len' : CallR X (.builtin "len") (rLenN K) := by subst hK; exact call_len
theorem k_tup' : CallR X (.type "tuple") (rTupO K) := by subst hK; exact call_tuple_of
theorem k_lst' : CallR X (.type "list") (rLstO K) := by subst hK; exact call_list_of
theorem k_ixL' : IxR X (rIxL K) := by subst hK; exact ix_list
theorem k_ixT' : IxR X (rIxT K) := by subst hK; exact ix_tup
theorem k_slT' : SlR X (rSlA K) := by subst hK; exact sl_tupA
theorem k_slL' : SlR X (rSlL K) := by subst hK; exact sl_list
theorem k_cat' : OpR X (binaryOp .Add) (rCatA K) := by subst hK; exact op_catA
theorem k_eqD' (hu : X.A.units + 64 < cLine) : OpR X (compareOp .Eq) (rEqD K) := by subst hK; exact op_eqD hu
theorem k_neD' (hu : X.A.units + 64 < cLine) : OpR X (compareOp .NotEq) (rNeD K) := by subst hK; exact op_neD hu
theorem k_pil' {tg l : Expr} {tl : TE} (hl : PE X l tl) : PI X tg l (iList K tl) := by subst hK; exact pi_list hl
theorem k_pit' {tg l : Expr} {tl : TE} (hl : PE X l tl) : PI X tg l (iTup K tl) := by subst hK; exact pi_tup hl
theorem k_gtup' {es : List Expr} {k : Nat} {t : TGs} {n : Nat} {pos : Pos} (hc : X.calm = true) (h : PGs X es t)
    (hn : (assignEach es X.env).length = n) (hst : (assignEach es X.env).findIdx? (·.1) = none) : PG X (.Tuple es k pos) (gTup K n t) := by subst hK; exact pg_tup hc h hn hst
theorem k_fld' {e : Expr} {f : Str} {ta : TE} {pos : Pos} (he : PE X e ta) (hb : attributeBase e f X.env (eval e X.env) = eval e X.env) : PE X (.Attribute e f pos) (tFld K ta f) := by subst hK; exact pe_fld he hb
end
theorem k_in (K : PySem.W.Frag) {X : Cx} (hK : X.K = K := by rfl) : OpR X (compareOp .In) (rIn K false) := k_in' K hK
theorem k_ni (K : PySem.W.Frag) {X : Cx} (hK : X.K = K := by rfl) : OpR X (compareOp .NotIn) (rIn K true) := k_ni' K hK
theorem k_any (K : PySem.W.Frag) {X : Cx} (hc : X.calm = true := by rfl) (hK : X.K = K := by rfl) : CallR X (.builtin "any") (rAny K) := k_any' K hK hc
theorem k_all (K : PySem.W.Frag) {X : Cx} (hc : X.calm = true := by rfl) (hK : X.K = K := by rfl) : CallR X (.builtin "all") (rAll K) := k_all' K hK hc
theorem k_max (K : PySem.W.Frag) {X : Cx} (hc : X.calm = true := by rfl) (hK : X.K = K := by rfl) : CallR X (.builtin "max") (rMax K) := k_max' K hK hc
theorem k_len (K : PySem.W.Frag) {X : Cx} (hK : X.K = K := by rfl) : CallR X (.builtin "len") (rLenN K) := k_len' K hK
theorem k_tup (K : PySem.W.Frag) {X : Cx} (hK : X.K = K := by rfl) : CallR X (.type "tuple") (rTupO K) := k_tup' K hK
theorem k_lst (K : PySem.W.Frag) {X : Cx} (hK : X.K = K := by rfl) : CallR X (.type "list") (rLstO K) := k_lst' K hK
theorem k_ixL (K : PySem.W.Frag) {X : Cx} (hK : X.K = K := by rfl) : IxR X (rIxL K) := k_ixL' K hK
theorem k_ixT (K : PySem.W.Frag) {X : Cx} (hK : X.K = K := by rfl) : IxR X (rIxT K) := k_ixT' K hK
theorem k_slT (K : PySem.W.Frag) {X : Cx} (hK : X.K = K := by rfl) : SlR X (rSlA K) := k_slT' K hK
theorem k_slL (K : PySem.W.Frag) {X : Cx} (hK : X.K = K := by rfl) : SlR X (rSlL K) := k_slL' K hK
theorem k_cat (K : PySem.W.Frag) {X : Cx} (hK : X.K = K := by rfl) : OpR X (binaryOp .Add) (rCatA K) := k_cat' K hK
theorem k_eqD (K : PySem.W.Frag) {X : Cx} (hu : X.A.units + 64 < cLine) (hK : X.K = K := by rfl) : OpR X (compareOp .Eq) (rEqD K) := k_eqD' K hK hu
theorem k_neD (K : PySem.W.Frag) {X : Cx} (hu : X.A.units + 64 < cLine) (hK : X.K = K := by rfl) : OpR X (compareOp .NotEq) (rNeD K) := k_neD' K hK hu
theorem k_pil (K : PySem.W.Frag) {X : Cx} {tg l : Expr} {tl : TE} (hl : PE X l tl) (hK : X.K = K := by rfl) : PI X tg l (iList K tl) := k_pil' K hK hl
theorem k_pit (K : PySem.W.Frag) {X : Cx} {tg l : Expr} {tl : TE} (hl : PE X l tl) (hK : X.K = K := by rfl) : PI X tg l (iTup K tl) := k_pit' K hK hl
theorem k_gtup (K : PySem.W.Frag) {X : Cx} {es : List Expr} {k : Nat} {t : TGs} {n : Nat} {pos : Pos} (h : PGs X es t) (hc : X.calm = true := by rfl) (hn : (assignEach es X.env).length = n := by rfl) (hst : (assignEach es X.env).findIdx? (·.1) = none := by rfl)
    (hK : X.K = K := by rfl) : PG X (.Tuple es k pos) (gTup K n t) := k_gtup' K hK hc h hn hst
theorem k_fld (K : PySem.W.Frag) {X : Cx} {e : Expr} {f : Str} {ta : TE} {pos : Pos} (he : PE X e ta) (hb : attributeBase e f X.env (eval e X.env) = eval e X.env := by rfl) (hK : X.K = K := by rfl) : PE X (.Attribute e f pos) (tFld K ta f) := k_fld' K hK he hb
section
variable {X : Cx} {e : Expr} {es : List Expr} {t : TA} {p pos : Pos} {x : Str} {r : List V → Hp → VK → Prop} {id : String}
/-- a built-in by its name -/
theorem pe_b (hc : CallR X (.builtin id) r) (hm : X.mg x = none) (hv : bootBuiltins x = some (.builtin id)) (ha : PA X (e :: es) t) (hg : Gl X x := by rfl) (hn : x ≠ "__name__" := by decide) (hdb : (x == ("__debug__" : Str)) = false := by decide)
    (he : starEach (e :: es) X.env = (false, eval e X.env) :: starEach es X.env := by rfl) (hpl : (backTo pos (starEach es X.env)).any (·.1) = false := by rfl) : PE X (.Call (.Name x p) (e :: es) [] pos) (tCB r t) := pe_callB hc hg hm hv ha hn hdb he hpl
theorem pe_ty (hc : CallR X (.type id) r) (hm : X.mg x = none) (hv : bootBuiltins x = some (.type id)) (ha : PA X (e :: es) t) (hg : Gl X x := by rfl) (hn : x ≠ "__name__" := by decide) (hdb : (x == ("__debug__" : Str)) = false := by decide)
    (he : starEach (e :: es) X.env = (false, eval e X.env) :: starEach es X.env := by rfl) (hpl : (backTo pos (starEach es X.env)).any (·.1) = false := by rfl) : PE X (.Call (.Name x p) (e :: es) [] pos) (tCB r t) := pe_callTy hc hg hm hv ha hn hdb he hpl
end
end CW

namespace CW
open PySem L2 Evl CE
section
variable {P : Program} {w : World} {K : PySem.W.Frag} {mg : Str → Option Value} {base : Heap}
/-! ### open_indexes -/
def spOpen : Sp := PrF (fun a : List (List Nat) × List Nat => [IsTG a.1, IsG a.2]) (fun a => a.1.length ≤ 7 ∧ a.2.length ≤ 7) (fun a => IsG (CL.openM a.1 a.2))
theorem scOpen : FnScope ["jobs", "group", "at", "job", "person"] ["jobs", "group"] (defScope sOpen) := ⟨rfl, rfl, rfl, by decide +kernel, rfl, by decide +kernel, by decide +kernel⟩
theorem ok_open {f : Addr} {fd : FuncData} (F : Fun K "open_indexes" "open_indexes" sOpen f fd) (B : Bf mg) : FnOk P w K mg base CX0 1 f fd ["jobs", "group"] spOpen := by
  refine F.ok scOpen (prF_len fun _ => rfl) (fun cdv A outer s H vs Q E hr h => ?_)
  obtain ⟨⟨jobs, g⟩, ⟨hj, hg⟩, hi, k⟩ := h
  obtain ⟨v1, v2, rfl, h1, h2⟩ := allP2 hi
  refine ⟨_, pss_one (ps_ret (pe_ty (k_tup K) B.tuple PyProof.Rows.boot_tuple (pa_cons
    (pe_lc (own := [("at", 2), ("job", 3)]) (g := gTup K 2 (gCons (gName 2) (gCons (gName 3) gNil))) rfl scOpen.nd (CX.pi_enumT (by rfl) B.enumerate (pa_cons (pv 0) pa_nil)) (blkOk_by (by kernel_rfl))
      (fun _ _ _ _ _ => k_gtup K (pgs_cons (pg_name (i := 2) scOpen.nd rfl (Or.inl rfl)) (pgs_cons (pg_name (i := 3) scOpen.nd rfl (Or.inr rfl)) pgs_nil)))
      (fun _ _ _ _ _ => pts_one (pt_val (pe_b (k_any K) B.any PyProof.Rows.boot_any (pa_cons
        (pe_lc (own := [("person", 4)]) (g := gName 4) (tt := tYes) rfl scOpen.nd (k_pit K (pv 1)) (blkOk_by (by kernel_rfl)) (fun _ _ _ _ _ => pg_name (i := 4) scOpen.nd rfl (Or.inl rfl)) (fun _ _ _ _ _ => pts_nil)
          (fun _ _ _ _ _ => pe_cmpR (k_in K) (pv 4) (pv 3) (by rfl))) pa_nil))))
      (fun _ _ _ _ _ => pv 2)) pa_nil))), ?_⟩
  refine p_ret (R := IsG (CL.openM jobs g)) (ep_tupN (EvP.imp (lcEn jobs IsG (fun i => IsV (nV i)) (fun i => g.any fun p => (jobs.getD i []).contains p) (ep_var rfl h1 (stt_TG jobs).x) (fun a => (stt_G a).x) (fun i => stt_V _)
    (by have : jobs.length ≤ 7 := hj; omega) (fun _ _ => rfl) (fun i job v H1 hi e hv => ?_) (fun i job v H1 hi e hv _ => ep_ev (ev_var rfl))) fun v H1 _ r => isN_map r)) fun v H1 e r => k v H1 e r
  have hd : jobs.getD i [] = job := by rw [List.getD_eq_getElem?_getD, hi]; rfl
  refine et_is (et_B (ev_any (bs := g.map fun p => job.contains p) (EvP.imp (lcG g (fun p => IsV (.bl (job.contains p))) (fun _ => true) (ep_var rfl ((stt_G g).x _ _ _ e h2) (stt_G g).x) (fun _ => stt_V _) (by have : g.length ≤ 7 := hg; omega) (fun _ => rfl)
    (fun a H2 ha e2 => et_yes) (fun a H2 ha e2 _ => ep_ev (ev_inG (ev_var rfl) (ep_var rfl ((stt_G job).x _ _ _ e2 hv) (stt_G job).x)))) fun v H2 _ r => ?_))) ?_
  · rw [filter_yes] at r
    exact isB_map r
  · rw [hd, List.any_map]
    rfl
end
end CW

namespace CW
open PySem L2 Evl CE
theorem ev_bltn {σ : L2.St} {H : Hp} {v : V} : Ev (tC v) σ H v := ev_c
section
variable {K : PySem.W.Frag} {σ : L2.St} {H : Hp} {ta tb tc te : TE}
theorem ev_isi {P : VP} {c : V} {u t : Value} {b : Bool} (h : EvP ta σ H P) (s : Stx P) (hc : Ev tb σ H c) (hx : ∀ v H1, Ex H H1 → P v H1 → TyX K H1 v t) (k : ClsV c u) (e : PySem.W.kitOne K t u = some b) : Ev (tCB (rIsi K) (tCons ta (tCons tb tNil))) σ H (.bl b) := fun H1 e1 Q q =>
  h H1 e1 _ fun v H2 e2 p => hc H2 (e1.trans e2) _ fun H3 e3 => ⟨v, c, t, u, b, rfl, k, hx v H3 ((e1.trans e2).trans e3) (s v H2 H3 e3 p), e, q H3 (e2.trans e3)⟩
theorem ev_isiT {P : VP} {cs : List V} {us : List Value} {t : Value} {b : Bool} {tcs : TA} (h : EvP ta σ H P) (s : Stx P) (hc : EvA tcs σ H cs) (hl : cs.length ≤ 100) (hx : ∀ v H1, Ex H H1 → P v H1 → TyX K H1 v t) (k : Paired ClsV cs us) (e : PySem.W.kitAny K t us = some b) :
    Ev (tCB (rIsiT K) (tCons ta (tCons (tTup tcs) tNil))) σ H (.bl b) := fun H1 e1 Q q =>
  h H1 e1 _ fun v H2 e2 p => hc H2 (e1.trans e2) _ fun H3 e3 => ⟨sz_of (by omega), fun l hl => ⟨v, l, cs, t, us, b, rfl, upd_same, k, hx v _ (((e1.trans e2).trans e3).trans (Ex.new hl)) (s v H2 _ (e3.trans (Ex.new hl)) p), e, q _ ((e2.trans e3).trans (Ex.new hl))⟩⟩
theorem ev_chain {i j k : Int} (ha : Ev ta σ H (.int i)) (hb : Ev tb σ H (.int j)) (hc : Ev tc σ H (.int k)) : Ev (tChain (rI0 fun i j => .bl (decide (i ≤ j))) (rI0 fun i j => .bl (decide (i ≤ j))) ta tb tc) σ H (.bl (decide (i ≤ j ∧ j ≤ k))) := fun H1 e Q q =>
  ha H1 e _ fun H2 e2 => hb H2 (e.trans e2) _ fun H3 e3 => ⟨i, j, rfl, rfl, decide (i ≤ j), rfl, by
    by_cases h : i ≤ j
    · rw [decide_eq_true h]
      refine iteT ?_
      refine hc H3 ((e.trans e2).trans e3) _ fun H4 e4 => ⟨j, k, rfl, rfl, ?_⟩
      have := q H4 ((e2.trans e3).trans e4)
      by_cases h2 : j ≤ k
      · show Q (.bl (decide (j ≤ k))) H4
        rw [decide_eq_true h2]
        rw [decide_eq_true (show i ≤ j ∧ j ≤ k from ⟨h, h2⟩)] at this
        exact this
      · show Q (.bl (decide (j ≤ k))) H4
        rw [decide_eq_false h2]
        rw [decide_eq_false (show ¬ (i ≤ j ∧ j ≤ k) from fun z => h2 z.2)] at this
        exact this
    · rw [decide_eq_false h]
      refine iteF ?_
      have := q H3 (e2.trans e3)
      rw [decide_eq_false (show ¬ (i ≤ j ∧ j ≤ k) from fun z => h z.1)] at this
      exact this⟩
end
theorem k_isi (K : PySem.W.Frag) {X : Cx} (hK : X.K = K := by rfl) : CallR X (.builtin "isinstance") (rIsi K) := by subst hK; exact call_isi
theorem k_isiT (K : PySem.W.Frag) {X : Cx} (hK : X.K = K := by rfl) : CallR X (.builtin "isinstance") (rIsiT K) := by subst hK; exact call_isiT
section
variable {P : Program} {w : World} {K : PySem.W.Frag} {mg : Str → Option Value} {base : Heap}
/-! ### is_integer -/
def spIsInteger : Sp := PrF (fun i : Int => [IsV (.int i)]) (fun _ => True) (fun _ => IsV (.bl true))
theorem scIsInteger : FnScope ["thing"] ["thing"] (defScope sIsInteger) := ⟨rfl, rfl, rfl, by decide +kernel, rfl, by decide +kernel, by decide +kernel⟩
theorem ok_isInteger {f : Addr} {fd : FuncData} (F : Fun K "is_integer" "is_integer" sIsInteger f fd) (B : Bf mg) : FnOk P w K mg base CX0 1 f fd ["thing"] spIsInteger := by
  refine F.ok scIsInteger (prF_len fun _ => rfl) (fun cdv A outer s H vs Q E hr h => ?_)
  obtain ⟨i, _, hi, k⟩ := h
  obtain ⟨v1, rfl, h1⟩ := allP1 hi
  have h1 : v1 = .int i := h1
  subst h1
  refine ⟨_, pss_one (ps_ret (pe_and (pe_b (k_isi K) B.isinstance PyProof.Rows.boot_isinstance (pa_cons (pv 0) (pa_cons (pe_bltn (v := .ty "int") (by rfl) B.int PyProof.Rows.boot_int rfl) pa_nil)))
    (pe_one (pe_not (pe_b (k_isi K) B.isinstance PyProof.Rows.boot_isinstance (pa_cons (pv 0) (pa_cons (pe_bltn (v := .ty "bool") (by rfl) B.bool PyProof.Rows.boot_bool rfl) pa_nil))))))), ?_⟩
  refine s_ret (v := .bl (true && !false)) (ev_andV ?_ fun _ => ev_notV ?_) fun H1 e => k _ H1 e rfl
  · exact ev_isi (t := .type "int") (ep_ev (ev_var rfl)) (stt_V _).x ev_c (fun v H1 e p => by
      have p : v = .int i := p
      subst p
      exact .base (.int i)) (.ty "int") (kit_ty (by decide +kernel))
  · exact ev_isi (t := .type "int") (ep_ev (ev_var rfl)) (stt_V _).x ev_c (fun v H1 e p => by
      have p : v = .int i := p
      subst p
      exact .base (.int i)) (.ty "bool") (kit_ty (by decide +kernel))
/-! ### is_between -/
def spIsBetween : Sp := PrF (fun a : Int × Int × Int => [IsV (.int a.1), IsV (.int a.2.1), IsV (.int a.2.2)]) (fun _ => True) (fun a => IsV (.bl (decide (a.2.1 ≤ a.1 ∧ a.1 ≤ a.2.2))))
theorem scIsBetween : FnScope ["thing", "least", "most"] ["thing", "least", "most"] (defScope sIsBetween) := ⟨rfl, rfl, rfl, by decide +kernel, rfl, by decide +kernel, by decide +kernel⟩
theorem ok_isBetween {f : Addr} {fd : FuncData} (F : Fun K "is_between" "is_between" sIsBetween f fd) (C1 : Cal P w K mg base 1 "is_integer" ["thing"] spIsInteger) : FnOk P w K mg base CX0 2 f fd ["thing", "least", "most"] spIsBetween := by
  refine F.ok scIsBetween (prF_len fun _ => rfl) (fun cdv A outer s H vs Q E hr h => ?_)
  obtain ⟨⟨i, l, m⟩, _, hi, k⟩ := h
  obtain ⟨v1, v2, v3, rfl, h1, h2, h3⟩ := allP3 hi
  have h1 : v1 = .int i := h1
  have h2 : v2 = .int l := h2
  have h3 : v3 = .int m := h3
  subst h1 h2 h3
  refine ⟨_, pss_one (ps_ret (pe_and (pe_fn C1 hr (pa_cons (pv 0) pa_nil)) (pe_one (pe_chain op_le op_le (pv 1) (pv 0) (pv 2))))), ?_⟩
  refine s_ret (v := .bl (true && decide (l ≤ i ∧ i ≤ m))) (ev_andV (ev_ep (ep_fn i (eap_cons (ep_ev (ev_var rfl)) (stt_V _).x eap_nil) trivial fun P hP => ?_)) fun _ => ev_chain (ev_var rfl) (ev_var rfl) (ev_var rfl)) fun H1 e => k _ H1 e ?_
  · rw [List.mem_singleton.mp hP]
    exact (stt_V _).x
  · rw [Bool.true_and]
    rfl
/-! ### is_listed -/
def spIsListed : Sp := PrF (fun a : List (List Nat) × Nat => [IsGs a.1, IsV (nV a.2)]) (fun a => a.1.length ≤ a.2) (fun _ => IsV (.bl true))
theorem scIsListed : FnScope ["thing", "most"] ["thing", "most"] (defScope sIsListed) := ⟨rfl, rfl, rfl, by decide +kernel, rfl, by decide +kernel, by decide +kernel⟩
theorem ok_isListed {f : Addr} {fd : FuncData} (F : Fun K "is_listed" "is_listed" sIsListed f fd) (B : Bf mg) : FnOk P w K mg base CX0 1 f fd ["thing", "most"] spIsListed := by
  refine F.ok scIsListed (prF_len fun _ => rfl) (fun cdv A outer s H vs Q E hr h => ?_)
  obtain ⟨⟨L, m⟩, hm, hi, k⟩ := h
  obtain ⟨v1, v2, rfl, h1, h2⟩ := allP2 hi
  have h2 : v2 = nV m := h2
  subst h2
  refine ⟨_, pss_one (ps_ret (pe_and (pe_b (k_isiT K) B.isinstance PyProof.Rows.boot_isinstance (pa_cons (pv 0) (pa_cons (pe_tup (pa_cons (pe_bltn (v := .ty "list") (by rfl) B.list PyProof.Rows.boot_list rfl) (pa_cons (pe_bltn (v := .ty "tuple") (by rfl) B.tuple PyProof.Rows.boot_tuple rfl) pa_nil))) pa_nil)))
    (pe_one (pe_cmpR op_le (pe_b (k_len K) B.len PySem.boot_len (pa_cons (pv 0) pa_nil)) (pv 1) (nomark _))))), ?_⟩
  refine s_ret (v := .bl (true && decide ((((L.map IsG).length : Nat) : Int) ≤ (m : Int)))) (ev_andV ?_ fun _ => ev_op (ev_lenL (ep_var rfl h1 (stx_Gs L))) (ev_var rfl) rv_I0) fun H1 e => k _ H1 e ?_
  · refine ev_isiT (t := .type "list") (cs := [.ty "list", .ty "tuple"]) (us := [.type "list", .type "tuple"]) (ep_var rfl h1 (stx_Gs L)) (stx_Gs L) (ea_cons ev_c (ea_cons ev_c ea_nil)) (by decide) (fun v H1 e p => ?_) (.cons (.ty _) (.cons (.ty _) .nil)) (kitAny_cons (b := true) (kit_ty (by decide +kernel)) (fun z => by cases z) (fun _ => rfl))
    obtain ⟨a, xs, rfl, ha, _⟩ := p
    exact .base (.lst ha)
  · show V.bl (true && decide ((((L.map IsG).length : Nat) : Int) ≤ (m : Int))) = .bl true
    have hm : L.length ≤ m := hm
    rw [List.length_map, decide_eq_true (by omega)]
    rfl
/-! ### is_group -/
def spIsGroup : Sp := PrF (fun a : Nat × List Nat => [IsV (nV a.1), IsG a.2]) (fun a => CL.Grp a.1 a.2 ∧ a.2.length ≤ 7) (fun _ => IsV (.bl true))
theorem scIsGroup : FnScope ["size", "thing", "person", "at"] ["size", "thing"] (defScope sIsGroup) := ⟨rfl, rfl, rfl, by decide +kernel, rfl, by decide +kernel, by decide +kernel⟩
theorem ok_isGroup {f : Addr} {fd : FuncData} (F : Fun K "is_group" "is_group" sIsGroup f fd) (B : Bf mg) (C1 : Cal P w K mg base 2 "is_between" ["thing", "least", "most"] spIsBetween) : FnOk P w K mg base CX0 3 f fd ["size", "thing"] spIsGroup := by
  refine F.ok scIsGroup (prF_len fun _ => rfl) (fun cdv A outer s H vs Q E hr h => ?_)
  obtain ⟨⟨n, g⟩, ⟨hG, hl⟩, hi, k⟩ := h
  obtain ⟨v1, v2, rfl, h1, h2⟩ := allP2 hi
  have h1 : v1 = nV n := h1
  subst h1
  have hl : g.length ≤ 7 := hl
  have hG : CL.Grp n g := hG
  have hg2 : IsG g v2 H := h2
  refine ⟨_, pss_cons (ps_if (PW.pt (pw_or (pt_not (pt_val (pe_b (k_isi K) B.isinstance PyProof.Rows.boot_isinstance (pa_cons (pv 1) (pa_cons (pe_bltn (v := .ty "tuple") (by rfl) B.tuple PyProof.Rows.boot_tuple rfl) pa_nil)))))
      (pw_or1 (pt_not (pt_val (pe_b (k_all K) B.all PyProof.Rows.boot_all (pa_cons (pe_lc (own := [("person", 2)]) (g := gName 2) (tt := tYes) rfl scIsGroup.nd (k_pit K (pv 1)) (blkOk_by (by kernel_rfl)) (fun _ _ _ _ _ => pg_name (i := 2) scIsGroup.nd rfl (Or.inl rfl)) (fun _ _ _ _ _ => pts_nil)
        (fun _ _ _ _ _ => pe_fn C1 hr (pa_cons (pv 2) (pa_cons pe_int (pa_cons (pe_op op_sub (pv 0) pe_int) pa_nil))))) pa_nil)))))))
      (pss_one (ps_ret pe_bl)) pss_nil)
    (pss_one (ps_ret (pe_b (k_all K) B.all PyProof.Rows.boot_all (pa_cons (pe_lc (own := [("at", 3)]) (g := gName 3) (tt := tYes) rfl scIsGroup.nd (pi_range1 (by rfl) B.range (pa_cons (pe_op op_sub (pe_b (k_len K) B.len PySem.boot_len (pa_cons (pv 1) pa_nil)) pe_int) pa_nil)) (blkOk_by (by kernel_rfl)) (fun _ _ _ _ _ => pg_name (i := 3) scIsGroup.nd rfl (Or.inl rfl)) (fun _ _ _ _ _ => pts_nil)
        (fun _ _ _ _ _ => pe_cmpR op_lt (pe_ix (k_ixT K) (pv 1) (pv 3) (fun _ _ => rfl)) (pe_ix (k_ixT K) (pv 1) (pe_op op_add (pv 3) pe_int) (fun _ _ => rfl)) (nomark _))) pa_nil)))), ?_⟩
  refine q_when (b := (!true || !true)) (et_or (et_not (et_B ?_)) fun _ => et_not (et_B ?_)) (fun z => by cases z) fun _ H1 e1 => ?_
  · refine ev_isi (t := .type "tuple") (ep_var rfl h2 (stt_G g).x) (stt_G g).x ev_c (fun v H1 e p => ?_) (.ty "tuple") (kit_ty (by decide +kernel))
    obtain ⟨a, rfl, ha⟩ := p
    exact .base (.tup ha)
  · refine ev_is (ev_all (bs := g.map fun (p : Nat) => decide (0 ≤ (p : Int) ∧ (p : Int) ≤ (n : Int) - 1)) (EvP.imp (lcG g (fun (p : Nat) => IsV (.bl (decide (0 ≤ (p : Int) ∧ (p : Int) ≤ (n : Int) - 1)))) (fun _ => true) (ep_var rfl h2 (stt_G g).x) (fun _ => stt_V _) (by omega) (fun _ => rfl) (fun a H1 ha e => et_yes) (fun a H1 ha e _ => ?_)) fun v H1 _ r => ?_)) ?_
    · refine ep_fn (out := fun a : Int × Int × Int => IsV (.bl (decide (a.2.1 ≤ a.1 ∧ a.1 ≤ a.2.2)))) ((a : Int), (0 : Int), (n : Int) - 1) (eap_cons (ep_ev (ev_var rfl)) (stt_V _).x (eap_cons (ep_ev ev_c) (stt_V _).x (eap_cons (ep_ev (ev_op (ev_var rfl) ev_c rv_I0)) (stt_V _).x eap_nil))) trivial fun P hP => ?_
      simp only [List.mem_cons, List.mem_nil_iff, or_false] at hP
      rcases hP with rfl | rfl | rfl
      all_goals exact (stt_V _).x
    · rw [filter_yes] at r
      exact isB_map r
    · congr 1
      rw [List.all_map, List.all_eq_true]
      intro p hp
      have := hG.lt p hp
      exact decide_eq_true ⟨by omega, by omega⟩
  · refine s_ret (v := .bl true) ?_ fun H2 e2 => k _ H2 (e1.trans e2) rfl
    have h2' := (stt_G g).x _ _ _ e1 h2
    have hn : ((g.length : Nat) : Int) - 1 = ((g.length - 1 : Nat) : Int) ∨ g.length = 0 := by omega
    refine ev_is (ev_all (bs := (List.range ((((g.length : Nat) : Int) - 1).toNat)).map fun i => decide (((g.getD i 0 : Nat) : Int) < ((g.getD (i + 1) 0 : Nat) : Int))) (EvP.imp (lcRz (((g.length : Nat) : Int) - 1) (fun i => IsV (.bl (decide (((g.getD i 0 : Nat) : Int) < ((g.getD (i + 1) 0 : Nat) : Int))))) (fun _ => true) (ea_cons (ev_op (ev_lenG (ep_var rfl h2' (stt_G g).x)) ev_c rv_I0) ea_nil) (fun _ => stt_V _) ⟨by omega, by omega⟩ (fun _ => rfl)
      (fun i H2 hi e2 => et_yes) (fun i H2 hi e2 _ => ?_)) fun v H1 _ r => ?_)) ?_
    · have h2'' := (stt_G g).x _ _ _ e2 h2'
      exact ep_ev (ev_op (ev_ixG (ep_var rfl h2'' (stt_G g).x) (ev_var rfl) (by omega)) (ev_ixG (i := i + 1) (ep_var rfl h2'' (stt_G g).x) (ev_is (ev_op (ev_var rfl) ev_c (rv_I0 (i := (i : Int)) (j := 1))) (by simp)) (by omega)) rv_I0)
    · rw [filter_yes] at r
      exact isB_map r
    · congr 1
      rw [List.all_map, List.all_eq_true]
      intro i hi
      have hi := List.mem_range.mp hi
      rw [Function.comp_apply]
      refine decide_eq_true ?_
      rw [CL.getD_at (show i < g.length by omega), CL.getD_at (show i + 1 < g.length by omega)]
      have := List.pairwise_iff_getElem.mp hG.asc i (i + 1) (by omega) (by omega) (by omega)
      omega
end
end CW

namespace CL
theorem upto_len : ∀ n, n < 8 → ∀ k, k < 8 → (upto n k).length ≤ 128 := by decide +kernel
theorem level_len {n k : Nat} (hn : n < 8) (hk : k < 8) : (level n k).length ≤ 128 := by
  cases k with
  | zero => exact by show 1 ≤ 128; decide
  | succ k =>
    have := upto_len n hn (k + 1) hk
    rw [upto_succ, List.length_append] at this
    omega
theorem flat_range (n : Nat) : ∀ L : List (List Nat), (L.flatMap fun _ => List.range n).length = L.length * n
  | [] => by simp
  | a :: L => by
    rw [List.flatMap_cons, List.length_append, flat_range n L, List.length_range, List.length_cons, Nat.add_mul]
    omega
end CL
namespace CW
open PySem L2 Evl CE
section
variable {P : Program} {w : World} {K : PySem.W.Frag} {mg : Str → Option Value} {base : Heap}
/-! ### groups -/
def spGroups : Sp := PrF (fun n : Nat => [IsV (nV n)]) (fun n => n ≤ 7) (fun n => IsGs (CL.groupsM n))
theorem scGroups : FnScope ["size", "found", "level", "length", "group", "person"] ["size"] (defScope sGroups) := ⟨rfl, rfl, rfl, by decide +kernel, rfl, by decide +kernel, by decide +kernel⟩
theorem ok_groups {f : Addr} {fd : FuncData} (F : Fun K "groups" "groups" sGroups f fd) (B : Bf mg) : FnOk P w K mg base CX0 1 f fd ["size"] spGroups := by
  refine F.ok scGroups (prF_len fun _ => rfl) (fun cdv A outer s H vs Q E hr h => ?_)
  obtain ⟨n, hn, hi, k⟩ := h
  obtain ⟨v1, rfl, h1⟩ := allP1 hi
  have h1 : v1 = nV n := h1
  subst h1
  have hu := hr.units
  refine ⟨_, pss_cons (ps_set (i := 1) scGroups.nd rfl (Or.inl rfl) (pe_lst (pa_cons (pe_tup pa_nil) pa_nil)))
    (pss_cons (ps_set (i := 2) scGroups.nd rfl (Or.inl rfl) (pe_lst (pa_cons (pe_tup pa_nil) pa_nil)))
    (pss_cons (ps_for PassesOwn.never rfl (pi_range1 (by rfl) B.range (pa_cons (pv 0) pa_nil)) (pg_name (i := 3) scGroups.nd rfl (Or.inl rfl))
      (pss_cons (ps_setLc2 (i := 2) (own := [("group", 4), ("person", 5)]) (vs1 := [5]) (g := gName 4) (tt := tYes) (wi1 := iRng1 (tCons (tVar 0) tNil)) (g1 := gName 5) rfl scGroups.nd rfl rfl (by first | exact sw_true rfl rfl rfl (by decide +kernel) | rfl)
          (k_pil K (pv 2)) (blkOk_by (by kernel_rfl)) (by decide) (fun _ _ _ _ _ => pg_name (i := 4) scGroups.nd rfl (Or.inl rfl)) (fun _ _ _ _ _ => pts_nil)
          (fun _ _ _ _ _ => pi_range1 (by rfl) B.range (pa_cons (pv 0) pa_nil)) (fun _ _ _ _ _ => pg_name (i := 5) scGroups.nd rfl (Or.inl rfl))
          (fun _ _ _ _ _ => pts_one (PW.pt (pw_or (pt_cmpR (k_eqD K hu) (pv 4) (pe_tup pa_nil) (nomark _)) (pw_or1 (pt_cmpR op_gt (pv 5) (pe_ix (k_ixT K) (pv 4) (pe_un un_neg pe_int) (fun _ _ => rfl)) (nomark _))))))
          (fun _ _ _ _ _ => pe_op (k_cat K) (pv 4) (pe_tup (pa_cons (pv 5) pa_nil))))
      (pss_one (ps_expr (pe_bm PySem.F.plainAttrs_list PySem.F.slot_list_extend PySem.F.type_list_extend mt_extend (pv 1) (pa_cons (pv 2) pa_nil))))))
    (pss_one (ps_ret (pv 1))))), ?_⟩
  refine nq_asg (en_lst (Ps := [[]].map IsG) (eap_cons isG_nil (stt_G _).x eap_nil) (fun P hP => (all_G P hP).x) (by decide)) fun pf xf H1 hpf e1 hf hxf => ?_
  refine nq_asg (en_lst (Ps := [[]].map IsG) (eap_cons isG_nil (stt_G _).x eap_nil) (fun P hP => (all_G P hP).x) (by decide)) fun pl xl H2 hpl e2 hl hxl => ?_
  have npl : pl ≠ pf := fun z => by
    rw [z, hf] at hpl
    cases hpl
  refine q_forR1 (n := (n : Int)) (ea_cons (ev_var rfl) ea_nil) ⟨by omega, by have : n ≤ 7 := hn; omega⟩
    (fun i σ' H' => ∃ pl v3, σ' = [some (nV n), some (.ref pf), some (.ref pl), v3, none, none] ∧ Ex H H' ∧ pl ≠ pf ∧ (∃ xs, H' pf = some (.lst xs) ∧ AllP ((CL.upto n i).map IsG) xs H') ∧ ∃ ys, H' pl = some (.lst ys) ∧ AllP ((CL.level n i).map IsG) ys H')
    (fun H3 e3 => ⟨pl, none, rfl, (e1.trans e2).trans e3, npl, ⟨xf, e3 _ _ (e2 _ _ hf), hxf.tx (tx_of (e2.trans e3)) all_G⟩, xl, e3 _ _ hl, hxl.tx (tx_of e3) all_G⟩) ?_ ?_
  · rintro i σ' H' hi ⟨pl, v3, rfl, eH, npl, ⟨xs, hxs, hall⟩, ys, hys, hally⟩
    have hn : n ≤ 7 := hn
    have hi : i < n := by omega
    refine nq_asg (lc2R (CL.level n i) IsG n (fun a b => IsG (a ++ [b])) (fun a b => CL.lastLt a b) (ep_ev (ev_var rfl) |>.imp fun v H1 e r => ?_) (fun a => (stt_G a).x) (fun a b => stt_G _) (by omega) ?_ (fun _ => rfl) (fun _ _ => rfl)
      (fun a v H1 _ _ _ => ea_cons (ev_var rfl) ea_nil) (fun a v b H1 ha hb e hv => ?_) (fun a v b H1 ha hb e hv hp => ep_catG (ep_var rfl hv (stt_G a).x) (ep_one (ev_var rfl)) ?_)) fun q zs H3 hq e3 hq3 hz3 => ?_
    · have r : v = .ref pl := r
      subst r
      exact ⟨pl, ys, rfl, e _ _ hys, hally.tx (tx_of e) all_G⟩
    · rw [CL.flat_range]
      have := CL.level_len (n := n) (k := i) (by omega) (by omega)
      have h1 : (CL.level n i).length * n ≤ 128 * 7 := Nat.mul_le_mul this hn
      omega
    · have hag := (CL.mem_level.mp ha)
      rcases List.eq_nil_or_concat a with rfl | ⟨a', z, rfl⟩
      · exact et_is (et_or (b := false) (et_test (ev_eqG (ep_var rfl hv (stt_G _).x) isG_nil)) (fun z => by cases z)) rfl
      · rw [List.concat_eq_append] at hv ⊢
        refine et_is (et_or (et_test (ev_eqG (ep_var rfl hv (stt_G _).x) isG_nil)) fun _ => et_test (ev_op (ev_var rfl) (ev_ixLast (ep_var rfl hv (stt_G _).x) (ev_un ev_c ru_neg)) rv_I0)) ?_
        have e1 : decide (a' ++ [z] = []) = false := decide_eq_false (by simp)
        rw [e1]
        unfold CL.lastLt
        rw [List.getLast?_append]
        show (false || decide ((z : Int) < (b : Int))) = decide (z < b)
        rw [Bool.false_or, Bool.eq_iff_iff, decide_eq_true_iff, decide_eq_true_iff]
        omega
    · have hag := (CL.mem_level.mp ha).2
      show a.length + 1 ≤ 100000
      omega
    · have e5 : ((CL.level n i).flatMap fun a => ((List.range n).filter fun b => CL.lastLt a b).map fun b => IsG (a ++ [b])) = (CL.level n (i + 1)).map IsG := by
        show _ = ((CL.level n i).flatMap (CL.more n)).map IsG
        rw [List.map_flatMap]
        congr 1
        funext a
        unfold CL.more
        rw [List.map_map]
        rfl
      have hz3 : AllP ((CL.level n (i + 1)).map IsG) zs H3 := by rw [← e5]; exact hz3
      have nq : q ≠ pf := fun z => by
        rw [z, hxs] at hq
        cases hq
      have hl1 := hall.len
      have hl2 := hz3.len
      have hp3 := e3 _ _ hxs
      have hpn : H pf = none := hpf
      refine s_ext (ev_var rfl) hp3 (ev_var rfl) hq3 ?_ fun H4 e4 => ?_
      · rw [List.length_map] at hl1 hl2
        have := CL.upto_len n (by omega) i (by omega)
        have := CL.level_len (n := n) (k := i + 1) (by omega) (by omega)
        omega
      · have hp4 := e4 _ _ hp3
        refine ⟨q, _, rfl, Ex.mut ((eH.trans e3).trans e4) hpn, nq, ⟨xs ++ zs, upd_same, ?_⟩, zs, by rw [upd_ne nq]; exact e4 _ _ hq3, hz3.tx ((tx_of e4).trans (tx_lst hp4)) all_G⟩
        rw [CL.upto_succ, List.map_append]
        exact AllP.app (hall.tx ((tx_of (e3.trans e4)).trans (tx_lst hp4)) all_G) (hz3.tx ((tx_of e4).trans (tx_lst hp4)) all_G)
  · rintro σ' H' ⟨pl, v3, rfl, eH, npl, ⟨xs, hxs, hall⟩, _⟩
    refine s_ret (v := .ref pf) (ev_var rfl) fun H3 e3 => k _ H3 (eH.trans e3) ⟨pf, xs, rfl, e3 _ _ hxs, ?_⟩
    rw [Int.toNat_natCast] at hall
    exact hall.tx (tx_of e3) all_G
end
end CW

namespace CL
theorem part_len {g T : List Nat} (h : T ∈ partsM g) : T.length ≤ g.length := by
  unfold partsM at h
  obtain ⟨ix, hix, rfl⟩ := List.mem_map.mp h
  unfold pick
  rw [List.length_map]
  exact (mem_groups.mp hix).len
theorem parts_len {g : List Nat} (h : g.length ≤ 7) : (partsM g).length ≤ 128 := by
  unfold partsM
  rw [List.length_map]
  exact upto_len _ (by omega) _ (by omega)
end CL
namespace CW
open PySem L2 Evl CE
theorem stx2 {P1 P2 : VP} (h1 : Stx P1) (h2 : Stx P2) : ∀ P ∈ [P1, P2], Stx P := fun P hP => by
  simp only [List.mem_cons, List.mem_nil_iff, or_false] at hP
  rcases hP with rfl | rfl
  · exact h1
  · exact h2
theorem stx1 {P1 : VP} (h1 : Stx P1) : ∀ P ∈ [P1], Stx P := fun P hP => by
  rw [List.mem_singleton.mp hP]
  exact h1
theorem stx3 {P1 P2 P3 : VP} (h1 : Stx P1) (h2 : Stx P2) (h3 : Stx P3) : ∀ P ∈ [P1, P2, P3], Stx P := fun P hP => by
  simp only [List.mem_cons, List.mem_nil_iff, or_false] at hP
  rcases hP with rfl | rfl | rfl
  · exact h1
  · exact h2
  · exact h3
section
variable {σ : L2.St} {H : Hp} {E : XK} {t1 t2 : TE} {js : List (List Nat)} {g : List Nat} {n : Nat}
theorem use_open (h1 : EvP t1 σ H (IsTG js)) (h2 : EvP t2 σ H (IsG g)) (hj : js.length ≤ 7) (hg : g.length ≤ 7) : EvP (tCall spOpen [] E (tCons t1 (tCons t2 tNil))) σ H (IsG (CL.openM js g)) := by
  unfold spOpen
  exact ep_fn (out := fun a : List (List Nat) × List Nat => IsG (CL.openM a.1 a.2)) (js, g) (eap_cons h1 (stt_TG js).x (eap_cons h2 (stt_G g).x eap_nil)) ⟨hj, hg⟩ (stx2 (stt_TG js).x (stt_G g).x)
theorem use_groups (h1 : Ev t1 σ H (nV n)) (hn : n ≤ 7) : EvP (tCall spGroups [] E (tCons t1 tNil)) σ H (IsGs (CL.groupsM n)) := by
  unfold spGroups
  exact ep_fn (out := fun n => IsGs (CL.groupsM n)) n (eap_cons (ep_ev h1) (stt_V _).x eap_nil) hn (stx1 (stt_V _).x)
end
section
variable {P : Program} {w : World} {K : PySem.W.Frag} {mg : Str → Option Value} {base : Heap}
/-! ### parts -/
def spParts : Sp := PrF (fun g : List Nat => [IsG g]) (fun g => g.length ≤ 7) (fun g => IsGs (CL.partsM g))
theorem scParts : FnScope ["group", "places", "at"] ["group"] (defScope sParts) := ⟨rfl, rfl, rfl, by decide +kernel, rfl, by decide +kernel, by decide +kernel⟩
theorem ok_parts {f : Addr} {fd : FuncData} (F : Fun K "parts" "parts" sParts f fd) (B : Bf mg) (C1 : Cal P w K mg base 1 "groups" ["size"] spGroups) : FnOk P w K mg base CX0 2 f fd ["group"] spParts := by
  refine F.ok scParts (prF_len fun _ => rfl) (fun cdv A outer s H vs Q E hr h => ?_)
  obtain ⟨g, hg, hi, k⟩ := h
  obtain ⟨v1, rfl, h1⟩ := allP1 hi
  refine ⟨_, pss_one (ps_ret (pe_lc (own := [("places", 1)]) (g := gName 1) (tt := tYes) rfl scParts.nd (k_pil K (pe_fn C1 hr (pa_cons (pe_b (k_len K) B.len PySem.boot_len (pa_cons (pv 0) pa_nil)) pa_nil))) (blkOk_by (by kernel_rfl)) (fun _ _ _ _ _ => pg_name (i := 1) scParts.nd rfl (Or.inl rfl)) (fun _ _ _ _ _ => pts_nil)
    (fun _ _ _ _ _ => pe_ty (k_tup K) B.tuple PyProof.Rows.boot_tuple (pa_cons (pe_lc (own := [("at", 2)]) (g := gName 2) (tt := tYes) rfl scParts.nd (k_pit K (pv 1)) (blkOk_by (by kernel_rfl)) (fun _ _ _ _ _ => pg_name (i := 2) scParts.nd rfl (Or.inl rfl)) (fun _ _ _ _ _ => pts_nil)
      (fun _ _ _ _ _ => pe_ix (k_ixT K) (pv 0) (pv 2) (fun _ _ => rfl))) pa_nil)))), ?_⟩
  refine p_ret (R := IsGs (CL.partsM g)) ((lcL (CL.groupsM g.length) IsG (fun ix => IsG (CL.pick g ix)) (fun _ => true) (ep_fn (out := fun n => IsGs (CL.groupsM n)) g.length (eap_cons (ep_ev (ev_lenG (ep_var rfl h1 (stt_G g).x))) (stt_V _).x eap_nil) hg fun P hP => ?_) (fun a => (stt_G a).x) (fun a => stt_G _) ?_ (fun _ => rfl)
    (fun a v H1 _ _ _ => et_yes) (fun ix v H1 hix e hv _ => ?_)).imp fun v H1 _ r => ?_) fun v H1 e r => k v H1 e r
  · rw [List.mem_singleton.mp hP]
    exact (stt_V _).x
  · have := CL.upto_len g.length (by have : g.length ≤ 7 := hg; omega) g.length (by have : g.length ≤ 7 := hg; omega)
    show (CL.upto g.length g.length).length ≤ 40000
    omega
  · have gi := CL.mem_groups.mp hix
    have h1' := (stt_G g).x _ _ _ e h1
    refine ep_tupN ((lcG ix (fun i => IsV (nV (g.getD i 0))) (fun _ => true) (ep_var rfl hv (stt_G ix).x) (fun _ => stt_V _) (by have := gi.len; have : g.length ≤ 7 := hg; omega) (fun _ => rfl) (fun a H2 _ _ => et_yes) (fun i H2 hi e2 _ => ?_)).imp fun v H2 _ r => ?_)
    · exact ep_ev (ev_ixG (ep_var rfl ((stt_G g).x _ _ _ e2 h1') (stt_G g).x) (ev_var rfl) (gi.lt i hi))
    · rw [filter_yes] at r
      refine isN_of (g := CL.pick g ix) ?_
      unfold CL.pick
      rw [List.map_map]
      exact r
  · rw [filter_yes] at r
    unfold CL.partsM IsGs
    rw [List.map_map]
    exact r
/-! ### shortage -/
def spShortage : Sp := PrF (fun a : List (List Nat) × List Nat => [IsTG a.1, IsG a.2]) (fun a => a.1.length ≤ 7 ∧ a.2.length ≤ 7) (fun a => IsV (.int (CL.shortM a.1 a.2)))
theorem scShortage : FnScope ["jobs", "group"] ["jobs", "group"] (defScope sShortage) := ⟨rfl, rfl, rfl, by decide +kernel, rfl, by decide +kernel, by decide +kernel⟩
theorem ok_shortage {f : Addr} {fd : FuncData} (F : Fun K "shortage" "shortage" sShortage f fd) (B : Bf mg) (C1 : Cal P w K mg base 1 "open_indexes" ["jobs", "group"] spOpen) : FnOk P w K mg base CX0 2 f fd ["jobs", "group"] spShortage := by
  refine F.ok scShortage (prF_len fun _ => rfl) (fun cdv A outer s H vs Q E hr h => ?_)
  obtain ⟨⟨js, g⟩, hp, hi, k⟩ := h
  obtain ⟨v1, v2, rfl, h1, h2⟩ := allP2 hi
  refine ⟨_, pss_one (ps_ret (pe_op op_sub (pe_b (k_len K) B.len PySem.boot_len (pa_cons (pv 1) pa_nil)) (pe_b (k_len K) B.len PySem.boot_len (pa_cons (pe_fn C1 hr (pa_cons (pv 0) (pa_cons (pv 1) pa_nil))) pa_nil)))), ?_⟩
  refine s_ret (ev_op (ev_lenG (ep_var rfl h2 (stt_G g).x)) (ev_lenG (use_open (ep_var rfl h1 (stt_TG js).x) (ep_var rfl h2 (stt_G g).x) hp.1 hp.2)) rv_I0) fun H1 e => k _ H1 e rfl
/-! ### strength_of -/
def spStrengthOf : Sp := PrF (fun a : List (List Nat) × List Nat => [IsTG a.1, IsG a.2]) (fun a => a.1.length ≤ 7 ∧ a.2.length ≤ 7) (fun a v _ => ∃ m, CL.IsMax a.1 a.2 m ∧ v = .int ((a.2.length : Int) - m))
theorem scStrengthOf : FnScope ["jobs", "group", "part"] ["jobs", "group"] (defScope sStrengthOf) := ⟨rfl, rfl, rfl, by decide +kernel, rfl, by decide +kernel, by decide +kernel⟩
theorem ok_strengthOf {f : Addr} {fd : FuncData} (F : Fun K "strength_of" "strength_of" sStrengthOf f fd) (B : Bf mg) (C1 : Cal P w K mg base 2 "parts" ["group"] spParts) (C2 : Cal P w K mg base 2 "shortage" ["jobs", "group"] spShortage) : FnOk P w K mg base CX0 3 f fd ["jobs", "group"] spStrengthOf := by
  refine F.ok scStrengthOf (prF_len fun _ => rfl) (fun cdv A outer s H vs Q E hr h => ?_)
  obtain ⟨⟨js, g⟩, ⟨hj, hg⟩, hi, k⟩ := h
  obtain ⟨v1, v2, rfl, h1, h2⟩ := allP2 hi
  have hg : g.length ≤ 7 := hg
  refine ⟨_, pss_one (ps_ret (pe_op op_sub (pe_b (k_len K) B.len PySem.boot_len (pa_cons (pv 1) pa_nil)) (pe_b (k_max K) B.max PyProof.Rows.boot_max (pa_cons
    (pe_lc (own := [("part", 2)]) (g := gName 2) (tt := tYes) rfl scStrengthOf.nd (k_pil K (pe_fn C1 hr (pa_cons (pv 1) pa_nil))) (blkOk_by (by kernel_rfl)) (fun _ _ _ _ _ => pg_name (i := 2) scStrengthOf.nd rfl (Or.inl rfl)) (fun _ _ _ _ _ => pts_nil)
      (fun _ _ _ _ _ => pe_fn C2 hr (pa_cons (pv 0) (pa_cons (pv 2) pa_nil)))) pa_nil)))), ?_⟩
  refine p_ret (R := fun v _ => ∃ m, CL.IsMax js g m ∧ v = .int ((g.length : Int) - m)) (ep_op (ep_ev (ev_lenG (ep_var rfl h2 (stt_G g).x))) (stt_V _).x (ep_max (ns := (CL.partsM g).map (CL.shortM js)) ((lcL (CL.partsM g) IsG (fun T => IsV (.int (CL.shortM js T))) (fun _ => true) (ep_fn (out := fun g => IsGs (CL.partsM g)) g (eap_cons (ep_var rfl h2 (stt_G g).x) (stt_G g).x eap_nil) hg (stx1 (stt_G g).x))
    (fun a => (stt_G a).x) (fun _ => stt_V _) (by have := CL.parts_len hg; omega) (fun _ => rfl) (fun a v H1 _ _ _ => et_yes) (fun T v H1 hT e hv _ => ?_)).imp fun v H1 _ r => ?_) ?_) fun x y H1 e hx hy => ?_) fun v H1 e r => k v H1 e r
  · exact ep_fn (out := fun a : List (List Nat) × List Nat => IsV (.int (CL.shortM a.1 a.2))) (js, T) (eap_cons (ep_var rfl ((stt_TG js).x _ _ _ e h1) (stt_TG js).x) (stt_TG js).x (eap_cons (ep_var rfl hv (stt_G T).x) (stt_G T).x eap_nil)) ⟨hj, by have := CL.part_len hT; show T.length ≤ 7; omega⟩ (stx2 (stt_TG js).x (stt_G T).x)
  · rw [filter_yes] at r
    rw [List.map_map]
    exact r
  · rw [List.length_map]
    exact List.length_pos_of_mem (CL.nil_part g)
  · obtain ⟨m, rfl, h3, h4⟩ := hy
    have hx : x = nV g.length := hx
    subst hx
    refine fun H2 e2 Q q => ⟨_, _, rfl, rfl, q _ H2 (Ex.refl H2) ⟨m, ⟨?_, fun T hT => h4 _ (List.mem_map.mpr ⟨T, hT, rfl⟩)⟩, rfl⟩⟩
    obtain ⟨T, hT, e⟩ := List.mem_map.mp h3
    exact ⟨T, hT, e⟩
end
end CW

/-! CW4: a Jobs in the heap; short_part, strength, placeable. -/
namespace CW
open PySem L2 Evl CE
/-- a, b = (x, y), the tuple made and unpacked -/
theorem s_unp {K : PySem.W.Frag} {σ : L2.St} {H : Hp} {D : Ends} {i k : Nat} {ta : TA} {Ps Qs : VP} (h : EvAP ta σ H [Ps, Qs]) (h1 : Stx Ps) (h2 : Stx Qs) (kk : ∀ v w H1, Ex H H1 → Ps v H1 → Qs w H1 → D.nx ((σ.set i (some v)).set k (some w)) H1) : tAsg (tTup ta) (gTup K 2 (gCons (gName i) (gCons (gName k) gNil))) D σ H := h H (Ex.refl H) _ fun vs H1 e p => by
  obtain ⟨v, w, rfl, p1, p2⟩ := allP2 p
  refine ⟨by show 2 ≤ sizeLine; decide, fun l hl => ⟨l, [v, w], rfl, st_of upd_same, rfl, v, [w], rfl, w, [], rfl, rfl, ?_⟩⟩
  exact kk v w _ (e.trans (Ex.new hl)) (h1 _ _ _ (Ex.new hl) p1) (h2 _ _ _ (Ex.new hl) p2)
theorem q_unp {K : PySem.W.Frag} {σ : L2.St} {H : Hp} {D : Ends} {tz : TS} {i k : Nat} {ta : TA} {Ps Qs : VP} (h : EvAP ta σ H [Ps, Qs]) (h1 : Stx Ps) (h2 : Stx Qs) (kk : ∀ v w H1, Ex H H1 → Ps v H1 → Qs w H1 → tz D ((σ.set i (some v)).set k (some w)) H1) : tSeq (tAsg (tTup ta) (gTup K 2 (gCons (gName i) (gCons (gName k) gNil)))) tz D σ H :=
  s_unp (D := { D with nx := tz D }) h h1 h2 kk
theorem kSJ : ¬ (("size" : Str) = "jobs") := by decide +kernel
theorem kJS : ¬ (("jobs" : Str) = "size") := by decide +kernel
/-- the attributes, as __init__ stores them -/
def jfs (n : Nat) (t : V) : List (Str × V) := putF "jobs" t (putF "size" (nV n) [])
theorem jfs_size (n : Nat) (t : V) : (jfs n t).lookup ("size" : Str) = some (nV n) := by
  unfold jfs
  rw [lookup_putF, if_neg kSJ, lookup_putF, if_pos rfl]
theorem jfs_jobs (n : Nat) (t : V) : (jfs n t).lookup ("jobs" : Str) = some t := by
  unfold jfs
  rw [lookup_putF, if_pos rfl]
theorem jfs_no (n : Nat) (t : V) {m : Str} (h1 : ¬ m = "jobs") (h2 : ¬ m = "size") : (jfs n t).lookup m = none := by
  unfold jfs
  rw [lookup_putF, if_neg h1, lookup_putF, if_neg h2]
  all_goals rfl
/-- a Jobs of a size with these jobs -/
def IsJ (C : Addr) (n : Nat) (js : List (List Nat)) : VP := fun v H => ∃ a dx t, v = .ref a ∧ H a = some (.ins C dx (jfs n t)) ∧ IsTG js t H
theorem stx_J (C : Addr) (n : Nat) (js : List (List Nat)) : Stx (IsJ C n js) := fun v H H' e ⟨a, dx, t, hv, ha, ht⟩ => ⟨a, dx, t, hv, e a _ ha, (stt_TG js).x _ _ _ e ht⟩
/-- what the top has made of the class -/
structure TJ (K : PySem.W.Frag) (mg : Str → Option Value) (C : Addr) : Prop where
  cl : Cls K C
  nS : NoAttr K C "size"
  nJ : NoAttr K C "jobs"
  mgC : mg "Jobs" = some (.ref C)
  ins : C8.InsC K C
/-- a method of Jobs by its name -/
def CalM (P : Program) (w : World) (K : PySem.W.Frag) (mg : Str → Option Value) (base : Heap) (k : Nat) (C : Addr) (m : Str) (ps : List Str) (sp : Sp) : Prop :=
  ∃ (f : Addr) (fd : FuncData), FnOk P w K mg base CX0 k f fd ps sp ∧ Meth K C m f ∧ Binds K fd ps []
section
variable {X : Cx} {k : Nat} {x m : Str} {ps : List Str} {sp : Sp} {e o : Expr} {es : List Expr} {t : TA} {ta : TE} {p pos apos : Pos} {C : Addr}
theorem pe_mth {pl : Sem Bool} (T : TJ X.K X.mg C) (M : CalM X.prog X.w X.K X.mg X.base k C m ps sp) (hr : Room k X.A) (he : PE X o ta) (ha : PA X (e :: es) t)
    (hst : starEach (e :: es) X.env = (false, eval e X.env) :: starEach es X.env := by rfl) (hpl : (backTo pos (starEach es X.env)).any (·.1) = false := by rfl)
    (ht : eval (.Call (.Attribute o m apos) (e :: es) [] pos) X.env = (do
      let ov ← eval o X.env
      standAt apos.atName
      let (f, first) ← holding [ov] (getMethod ov m pl)
      callWith pos f first (backTo pos (starEach (e :: es) X.env)) (backToKw pos (keywordEach [] X.env))) := by rfl) :
    PE X (.Call (.Attribute o m apos) (e :: es) [] pos) (tMeth C m sp [] E0 ta t) := by
  obtain ⟨f, fd, F, hm, hb⟩ := M
  exact pe_meth he T.cl hm F hr hb .nil pass0 ha hst hpl ht
theorem pe_mth0 {pl : Sem Bool} (T : TJ X.K X.mg C) (M : CalM X.prog X.w X.K X.mg X.base k C m ps sp) (hr : Room k X.A) (he : PE X o ta)
    (ht : eval (.Call (.Attribute o m apos) [] [] pos) X.env = (do
      let ov ← eval o X.env
      standAt apos.atName
      let (f, first) ← holding [ov] (getMethod ov m pl)
      callWith pos f first (backTo pos (starEach [] X.env)) (backToKw pos (keywordEach [] X.env))) := by rfl) :
    PE X (.Call (.Attribute o m apos) [] [] pos) (tMeth C m sp [] E0 ta tNil) := by
  obtain ⟨f, fd, F, hm, hb⟩ := M
  exact pe_meth0 he T.cl hm F hr hb .nil pass0 ht
end
section
variable {K : PySem.W.Frag} {mg : Str → Option Value} {C : Addr} {σ : L2.St} {H : Hp} {E : XK} {ta t1 t2 te : TE} {js : List (List Nat)} {g : List Nat} {n : Nat}
theorem ep_jobs (T : TJ K mg C) (h : EvP ta σ H (IsJ C n js)) : EvP (tFld K ta "jobs") σ H (IsTG js) := fun H1 e Q q => h H1 e _ fun v H2 e2 ⟨a, dx, t, hv, ha, ht⟩ =>
  ⟨a, C, dx, _, t, hv, ha, T.cl, T.nJ, jfs_jobs n t, q t H2 e2 ht⟩
theorem ev_size (T : TJ K mg C) (h : EvP ta σ H (IsJ C n js)) : Ev (tFld K ta "size") σ H (nV n) := fun H1 e Q q => h H1 e _ fun v H2 e2 ⟨a, dx, t, hv, ha, ht⟩ =>
  ⟨a, C, dx, _, _, hv, ha, T.cl, T.nS, jfs_size n t, q H2 e2⟩
theorem use_parts (h1 : EvP t1 σ H (IsG g)) (hg : g.length ≤ 7) : EvP (tCall spParts [] E (tCons t1 tNil)) σ H (IsGs (CL.partsM g)) := by
  unfold spParts
  exact ep_fn (out := fun g => IsGs (CL.partsM g)) g (eap_cons h1 (stt_G g).x eap_nil) hg (stx1 (stt_G g).x)
theorem use_shortage (h1 : EvP t1 σ H (IsTG js)) (h2 : EvP t2 σ H (IsG g)) (hj : js.length ≤ 7) (hg : g.length ≤ 7) : Ev (tCall spShortage [] E (tCons t1 (tCons t2 tNil))) σ H (.int (CL.shortM js g)) := by
  unfold spShortage
  exact ev_ep (ep_fn (out := fun a : List (List Nat) × List Nat => IsV (.int (CL.shortM a.1 a.2))) (js, g) (eap_cons h1 (stt_TG js).x (eap_cons h2 (stt_G g).x eap_nil)) ⟨hj, hg⟩ (stx2 (stt_TG js).x (stt_G g).x))
end
section
variable {P : Program} {w : World} {K : PySem.W.Frag} {mg : Str → Option Value} {base : Heap} {C : Addr}
/-! ### short_part -/
def spShortPart (C : Addr) : Sp := PrF (fun a : Nat × List (List Nat) × List Nat => [IsJ C a.1 a.2.1, IsG a.2.2]) (fun a => a.2.1.length ≤ 7 ∧ a.2.2.length ≤ 7) (fun a v H => ∃ r, CL.SpOk a.2.1 a.2.2 r ∧ IsG r v H)
theorem use_shortPart {σ : L2.St} {H : Hp} {E : XK} {t1 t2 : TE} {js : List (List Nat)} {g : List Nat} {n : Nat} (h1 : EvP t1 σ H (IsJ C n js)) (h2 : EvP t2 σ H (IsG g)) (hj : js.length ≤ 7) (hg : g.length ≤ 7) :
    EvP (tCall (spShortPart C) [] E (tCons t1 (tCons t2 tNil))) σ H (fun v H => ∃ r, CL.SpOk js g r ∧ IsG r v H) := by
  unfold spShortPart
  exact ep_fn (out := fun (a : Nat × List (List Nat) × List Nat) v H => ∃ r, CL.SpOk a.2.1 a.2.2 r ∧ IsG r v H) (n, js, g) (eap_cons h1 (stx_J C n js) (eap_cons h2 (stt_G g).x eap_nil)) ⟨hj, hg⟩ (stx2 (stx_J C n js) (stt_G g).x)
theorem scShortPart : FnScope ["jobs", "group", "found", "most", "part", "many"] ["jobs", "group"] (defScope sShortPart) := ⟨rfl, rfl, rfl, by decide +kernel, rfl, by decide +kernel, by decide +kernel⟩
theorem ok_shortPart {f : Addr} {fd : FuncData} (F : Fun K "short_part" "short_part" sShortPart f fd) (B : Bf mg) (T : TJ K mg C) (C1 : Cal P w K mg base 2 "parts" ["group"] spParts) (C2 : Cal P w K mg base 2 "shortage" ["jobs", "group"] spShortage) : FnOk P w K mg base CX0 3 f fd ["jobs", "group"] (spShortPart C) := by
  refine F.ok scShortPart (prF_len fun _ => rfl) (fun cdv A outer s H vs Q E hr h => ?_)
  obtain ⟨⟨n, js, g⟩, ⟨hj, hg⟩, hi, k⟩ := h
  obtain ⟨v1, v2, rfl, h1, h2⟩ := allP2 hi
  have hg : g.length ≤ 7 := hg
  have hj : js.length ≤ 7 := hj
  have h1 : IsJ C n js v1 H := h1
  have h2 : IsG g v2 H := h2
  refine ⟨_, pss_cons (ps_asg (pe_tup (pa_cons (pe_tup pa_nil) (pa_cons pe_int pa_nil))) (k_gtup K (pgs_cons (pg_name (i := 2) scShortPart.nd rfl (Or.inl rfl)) (pgs_cons (pg_name (i := 3) scShortPart.nd rfl (Or.inl rfl)) pgs_nil))))
    (pss_cons (ps_for PassesOwn.never rfl (k_pil K (pe_fn C1 hr (pa_cons (pv 1) pa_nil))) (pg_name (i := 4) scShortPart.nd rfl (Or.inl rfl))
      (pss_cons (ps_set (i := 5) scShortPart.nd rfl (Or.inl rfl) (pe_fn C2 hr (pa_cons (k_fld K (pv 0)) (pa_cons (pv 4) pa_nil))))
      (pss_one (ps_if (pt_cmpR op_gt (pv 5) (pv 3) (nomark _)) (pss_one (ps_par (i := 2) (j := 3) rfl scShortPart.nd rfl rfl (by decide) rfl rfl (pa_cons (pv 4) (pa_cons (pv 5) pa_nil)) (by rfl))) pss_nil))))
    (pss_one (ps_ret (pv 2)))), ?_⟩
  refine q_unp (Ps := IsG []) (Qs := IsV (.int 0)) (eap_cons isG_nil (stt_G _).x (eap_cons (ep_ev ev_c) (stt_V _).x eap_nil)) (stt_G _).x (stt_V _).x fun vr vm H1 e1 hr1 hm1 => ?_
  have hm1 : vm = .int 0 := hm1
  subst hm1
  refine q_forP (CL.partsM g) IsG (use_parts (ep_var rfl ((stt_G g).x _ _ _ e1 h2) (stt_G g).x) hg) (fun a => (stt_G a).x)
    (fun H2 i σ' H' => ∃ vr r x4 x5, σ' = [some v1, some v2, some vr, some (.int (CL.shortM js r)), x4, x5] ∧ Ex H2 H' ∧ IsG r vr H' ∧ (r = [] ∨ (r ∈ CL.partsM g ∧ 0 < CL.shortM js r)) ∧ ∀ T ∈ (CL.partsM g).take i, CL.shortM js T ≤ CL.shortM js r)
    (fun H2 i σ' H' e2 ⟨_, _, _, _, _, e3, _⟩ => e3) (fun H2 e2 => ⟨vr, [], none, none, by rw [CL.short_nil]; rfl, Ex.refl _, (stt_G _).x _ _ _ e2 hr1, .inl rfl, fun T hT => by simp at hT⟩) ?_ ?_
  · rintro H2 i a v σ' H' e2 hai ha ⟨vr, r, x4, x5, rfl, e3, hr2, h3, h4⟩
    have hap : a ∈ CL.partsM g := List.mem_of_getElem? hai
    have hal := CL.part_len hap
    have r0 : 0 ≤ CL.shortM js r := by
      rcases h3 with z | z
      · rw [z, CL.short_nil]
        exact Int.le_refl _
      · omega
    have tk : (CL.partsM g).take (i + 1) = (CL.partsM g).take i ++ [a] := by rw [List.take_add_one, hai]; rfl
    refine q_asg (use_shortage (ep_jobs T (ep_var rfl (stx_J C n js _ _ _ ((e1.trans e2).trans e3) h1) (stx_J C n js))) (ep_var rfl ha (stt_G a).x) hj (by omega)) fun H3 e4 => ?_
    refine s_when (et_test (ev_op (ev_var rfl) (ev_var rfl) rv_I0)) (fun hb H4 e5 => ?_) (fun hb H4 e5 => ?_)
    · have hb := of_decide_eq_true hb
      refine s_par (Ps := IsG a) (Qs := IsV (.int (CL.shortM js a))) (eap_cons (ep_var rfl ((stt_G a).x _ _ _ (e4.trans e5) ha) (stt_G a).x) (stt_G a).x (eap_cons (ep_ev (ev_var rfl)) (stt_V _).x eap_nil)) fun v w H5 e6 hv hw => ?_
      have hw : w = .int (CL.shortM js a) := hw
      subst hw
      refine ⟨v, a, _, _, rfl, ((e3.trans e4).trans e5).trans e6, hv, .inr ⟨hap, by omega⟩, fun T hT => ?_⟩
      rw [tk] at hT
      rcases List.mem_append.mp hT with z | z
      · have := h4 T z
        omega
      · rw [List.mem_singleton.mp z]
        exact Int.le_refl _
    · have hb := of_decide_eq_false hb
      refine ⟨vr, r, _, _, rfl, (e3.trans e4).trans e5, (stt_G r).x _ _ _ (e4.trans e5) hr2, h3, fun T hT => ?_⟩
      rw [tk] at hT
      rcases List.mem_append.mp hT with z | z
      · exact h4 T z
      · rw [List.mem_singleton.mp z]
        omega
  · rintro H2 σ' H' e2 ⟨vr, r, x4, x5, rfl, e3, hr2, h3, h4⟩
    rw [List.take_length] at h4
    exact s_ret (ev_var rfl) fun H3 e4 => k _ H3 (((e1.trans e2).trans e3).trans e4) ⟨r, ⟨h3, h4⟩, (stt_G r).x _ _ _ e4 hr2⟩
/-! ### strength -/
def spStrength (C : Addr) : Sp := PrF (fun a : Nat × List (List Nat) × List Nat => [IsJ C a.1 a.2.1, IsG a.2.2]) (fun a => a.2.1.length ≤ 7 ∧ a.2.2.length ≤ 7) (fun a v _ => ∃ m, CL.IsMax a.2.1 a.2.2 m ∧ v = .int ((a.2.2.length : Int) - m))
theorem scStrength : FnScope ["jobs", "group"] ["jobs", "group"] (defScope sStrength) := ⟨rfl, rfl, rfl, by decide +kernel, rfl, by decide +kernel, by decide +kernel⟩
theorem ok_strength {f : Addr} {fd : FuncData} (F : Fun K "strength" "strength" sStrength f fd) (B : Bf mg) (T : TJ K mg C) (C1 : Cal P w K mg base 2 "shortage" ["jobs", "group"] spShortage) (C2 : Cal P w K mg base 3 "short_part" ["jobs", "group"] (spShortPart C)) : FnOk P w K mg base CX0 4 f fd ["jobs", "group"] (spStrength C) := by
  refine F.ok scStrength (prF_len fun _ => rfl) (fun cdv A outer s H vs Q E hr h => ?_)
  obtain ⟨⟨n, js, g⟩, ⟨hj, hg⟩, hi, k⟩ := h
  obtain ⟨v1, v2, rfl, h1, h2⟩ := allP2 hi
  have hg : g.length ≤ 7 := hg
  have hj : js.length ≤ 7 := hj
  have h1 : IsJ C n js v1 H := h1
  have h2 : IsG g v2 H := h2
  refine ⟨_, pss_one (ps_ret (pe_op op_sub (pe_b (k_len K) B.len PySem.boot_len (pa_cons (pv 1) pa_nil)) (pe_fn C1 (hr.mono (by decide)) (pa_cons (k_fld K (pv 0)) (pa_cons (pe_fn C2 hr (pa_cons (pv 0) (pa_cons (pv 1) pa_nil))) pa_nil))))), ?_⟩
  refine p_ret (R := fun v _ => ∃ m, CL.IsMax js g m ∧ v = .int ((g.length : Int) - m)) (ep_op (P' := fun v _ => ∃ m, CL.IsMax js g m ∧ v = .int m) (ep_ev (ev_lenG (ep_var rfl h2 (stt_G g).x))) (stt_V _).x ?_ fun x y H1 e hx hy => ?_) fun v H1 e r => k v H1 e r
  · refine fun H1 e Q q => (ep_jobs T (ep_var rfl h1 (stx_J C n js))) H1 e _ fun vt H2 e2 ht => (use_shortPart (ep_var rfl h1 (stx_J C n js)) (ep_var rfl h2 (stt_G g).x) hj hg) H2 (e.trans e2) _ fun vr H3 e3 ⟨r, hr, hr2⟩ => ?_
    refine ⟨(js, r), ⟨hj, ?_⟩, ⟨(stt_TG js).x _ _ _ e3 ht, hr2, trivial⟩, fun v H' e4 hv => q v H' ((e2.trans e3).trans e4) ⟨_, hr.max, hv⟩⟩
    have := CL.part_len hr.part
    show r.length ≤ 7
    omega
  · obtain ⟨m, hm, rfl⟩ := hy
    have hx : x = nV g.length := hx
    subst hx
    exact fun H2 e2 Q q => ⟨_, _, rfl, rfl, q _ H2 (Ex.refl H2) ⟨m, hm, rfl⟩⟩
end
end CW

/-! CW5: placeable. -/
namespace CL
theorem groups_len {n : Nat} (h : n ≤ 7) : (groupsM n).length ≤ 128 := upto_len n (by omega) n (by omega)
end CL
namespace CW
open PySem L2 Evl CE
section
variable {K : PySem.W.Frag} {σ : L2.St} {H H' : Hp} {ta tb te : TE}
abbrev rLstD : List V → Hp → VK → Prop := fun xs H Q => ∃ d kvs, xs = [V.ref d] ∧ Rd H d (.dT kvs) ∧ ∀ p bs, H p = none → IsKeys H kvs bs → Q (.ref p) (upd H p (.lst (bs.map V.ref)))
theorem keys_gs {f : List Nat → V} {H : Hp} : ∀ {L : List (List Nat)} {bs : List Addr}, IsKeys H (dkv L f) bs → AllP (L.map IsG) (bs.map V.ref) H
  | [], [], _ => trivial
  | g :: L, b :: bs, h => by
    cases h with
    | cons h1 h2 => exact ⟨⟨b, rfl, by have h1 : H b = some (.tup ((kG g).map kV)) := h1; rw [kV_kG] at h1; exact h1⟩, keys_gs h2⟩
  | [], _ :: _, h => by cases h
  | _ :: _, [], h => by cases h
theorem ep_lstD {L : List (List Nat)} {f : List Nat → V} (h : EvP te σ H (IsD L f)) : EvP (tCB rLstD (tCons te tNil)) σ H (IsGs L) := fun H1 e Q q => h H1 e _ fun v H2 e2 ⟨a, hv, ha⟩ => by
  subst hv
  exact ⟨a, _, rfl, .inl ha, fun p bs hp hk => q (.ref p) _ (e2.trans (Ex.new hp)) ⟨p, _, rfl, upd_same, (keys_gs hk).ex (Ex.new hp) fun P hP => (all_G P hP).x⟩⟩
end
/-- d = {} with groups as keys -/
theorem s_dnew {σ : L2.St} {H : Hp} {D : Ends} {tz : TS} {i : Nat} (f : List Nat → V) (k : ∀ p, H p = none → tz D (σ.set i (some (.ref p))) (upd H p (.dT (dkv [] f)))) : tSeq (tAsg tDNewT (gName i)) tz D σ H := fun p hp => k p hp
section
variable {P : Program} {w : World} {K : PySem.W.Frag} {mg : Str → Option Value} {base : Heap} {C : Addr}
def spPlaceable (C : Addr) : Sp := PrF (fun a : Nat × List (List Nat) => [IsJ C a.1 a.2]) (fun a => a.1 ≤ 7 ∧ a.2.length ≤ 7) (fun a => IsGs (CL.plM a.1 a.2))
theorem scPlaceable : FnScope ["jobs", "known", "group", "shorter", "at", "one"] ["jobs"] (defScope sPlaceable) := ⟨rfl, rfl, rfl, by decide +kernel, rfl, by decide +kernel, by decide +kernel⟩
theorem ok_placeable {f : Addr} {fd : FuncData} (F : Fun K "placeable" "placeable" sPlaceable f fd) (B : Bf mg) (T : TJ K mg C) (C1 : Cal P w K mg base 1 "groups" ["size"] spGroups) (C2 : Cal P w K mg base 1 "open_indexes" ["jobs", "group"] spOpen) : FnOk P w K mg base CX0 2 f fd ["jobs"] (spPlaceable C) := by
  refine F.ok scPlaceable (prF_len fun _ => rfl) (fun cdv A outer s H vs Q E hr h => ?_)
  obtain ⟨⟨n, js⟩, ⟨hn, hj⟩, hi, k⟩ := h
  obtain ⟨v1, rfl, h1⟩ := allP1 hi
  have hn : n ≤ 7 := hn
  have hj : js.length ≤ 7 := hj
  have h1 : IsJ C n js v1 H := h1
  have hu := hu_of hr
  refine ⟨_, pss_cons (ps_set (i := 1) scPlaceable.nd rfl (Or.inr rfl) pe_dnewT)
    (pss_cons (ps_for PassesOwn.never rfl (k_pil K (pe_fn C1 hr (pa_cons (k_fld K (pv 0)) pa_nil))) (pg_name (i := 2) scPlaceable.nd rfl (Or.inr rfl))
      (pss_cons (ps_setLc (i := 3) (own := [("at", 4)]) (g := gName 4) (tt := tYes) rfl scPlaceable.nd rfl rfl (by first | exact sw_true rfl rfl rfl (by decide +kernel) | rfl) (pi_range1 (by rfl) B.range (pa_cons (pe_b (k_len K) B.len PySem.boot_len (pa_cons (pv 2) pa_nil)) pa_nil)) (blkOk_by (by kernel_rfl)) (fun _ _ _ _ _ => pg_name (i := 4) scPlaceable.nd rfl (Or.inl rfl)) (fun _ _ _ _ _ => pts_nil)
        (fun _ _ _ _ _ => pe_op (k_cat K) (pe_slice (k_slT K) (pv 2) po_none (po_some (pv 4))) (pe_slice (k_slT K) (pv 2) (po_some (pe_op op_add (pv 4) pe_int)) po_none)))
      (pss_one (ps_if (PW.pt (pw_and (pt_val (pe_b (k_all K) B.all PyProof.Rows.boot_all (pa_cons (pe_lc (own := [("one", 5)]) (g := gName 5) (tt := tYes) rfl scPlaceable.nd (k_pil K (pv 3)) (blkOk_by (by kernel_rfl)) (fun _ _ _ _ _ => pg_name (i := 5) scPlaceable.nd rfl (Or.inl rfl)) (fun _ _ _ _ _ => pts_nil)
          (fun _ _ _ _ _ => pe_cmp (pc_din hu (pv 5) (pv 1)))) pa_nil)))
          (pw_and1 (pt_cmpR op_ge (pe_b (k_len K) B.len PySem.boot_len (pa_cons (pe_fn C2 hr (pa_cons (k_fld K (pv 0)) (pa_cons (pv 2) pa_nil))) pa_nil)) (pe_b (k_len K) B.len PySem.boot_len (pa_cons (pv 2) pa_nil)) (nomark _)))))
        (pss_one (ps_dput hu (pv 1) (pv 2) pe_bl rfl)) pss_nil))))
    (pss_one (ps_ret (pe_ty (call_list_dT rfl) B.list PyProof.Rows.boot_list (pa_cons (pv 1) pa_nil))))), ?_⟩
  refine s_dnew (fun _ => .bl true) fun pd hpd => ?_
  have e1 : Ex H (upd H pd (.dT (dkv [] fun _ => .bl true))) := Ex.new hpd
  refine q_forQ (CL.groupsM n) IsG (use_groups (ev_size T (ep_var rfl (stx_J C n js _ _ _ e1 h1) (stx_J C n js))) hn) (fun a => stt_G a)
    (fun H2 i σ' H' => ∃ x2 x3, σ' = [some v1, some (.ref pd), x2, x3, none, none] ∧ Ex H H' ∧ LTx H2 H' ∧ H' pd = some (.dT (dkv (((CL.groupsM n).take i).filter (CL.canF js)) fun _ => .bl true)))
    (fun H2 i σ' H' e2 ⟨_, _, _, _, e3, _⟩ => e3) (fun H2 e2 => ⟨none, none, rfl, e1.trans e2, LTx.of (Ex.refl _), e2 _ _ upd_same⟩) ?_ ?_
  · rintro H2 i g v σ' H' e2 hgi hg ⟨x2, x3, rfl, eH, lt, hd⟩
    have gg : CL.Grp n g := CL.mem_groups.mp (List.mem_of_getElem? hgi)
    have gl := gg.len
    have hlt : i < (CL.groupsM n).length := (List.getElem?_eq_some_iff.mp hgi).1
    have split : CL.groupsM n = (CL.groupsM n).take i ++ g :: (CL.groupsM n).drop (i + 1) := by
      have e3 : (CL.groupsM n)[i] = g := by
        have := List.getElem?_eq_getElem hlt
        rw [hgi] at this
        exact (Option.some.inj this).symm
      conv => lhs; rw [← List.take_append_drop i (CL.groupsM n), List.drop_eq_getElem_cons hlt, e3]
    have tk : (CL.groupsM n).take (i + 1) = (CL.groupsM n).take i ++ [g] := by rw [List.take_add_one, hgi]; rfl
    have nd : ¬ g ∈ (CL.groupsM n).take i := fun z => by
      have hnd := CL.groups_nodup n
      rw [split] at hnd
      exact (List.pairwise_append.mp hnd).2.2 g z g (by simp) rfl
    have hlen := CL.groups_len hn
    have e5 : (((CL.groupsM n).take i).filter (CL.canF js)).length ≤ 128 := by
      refine Nat.le_trans (List.length_filter_le _ _) ?_
      rw [List.length_take]
      omega
    have hJ := stx_J C n js _ _ _ eH h1
    refine pq_asg (R := IsGs (CL.shorterM g)) ((lcRg g.length (fun at_ => IsG (CL.cutAt g at_)) (fun _ => true) (ea_cons (ev_lenG (ep_var rfl hg (stt_G g).x)) ea_nil) (fun _ => stt_G _) (by omega) (fun _ => rfl) (fun a H3 _ _ => et_yes) (fun a H3 ha e3 _ => ?_)).imp fun v H3 _ r => ?_) fun vs H3 e3 hs => ?_
    · have hg3 := (stt_G g).x _ _ _ e3 hg
      have a1 := ep_slG (K := K) (te := tVar 2) (σ := (wipe [some v1, some (V.ref pd), some v, x3, none, none] [4]).set 4 (some (nV a))) (H := H3) (tl := tNoPart) (th := tPart (tVar 4)) (lo := none) (hi := some (a : Int)) (ep_var rfl hg3 (stt_G g).x) eo_none (eo_some (ev_var rfl))
      have a2 := ep_slG (K := K) (te := tVar 2) (σ := (wipe [some v1, some (V.ref pd), some v, x3, none, none] [4]).set 4 (some (nV a))) (H := H3) (tl := tPart (tOp (rI0 fun i j => .int (i + j)) (tVar 4) (tC (.int 1)))) (th := tNoPart) (lo := some ((a + 1 : Nat) : Int)) (hi := none) (ep_var rfl hg3 (stt_G g).x) (eo_some (ev_is (ev_op (ev_var rfl) ev_c (rv_I0 (i := (a : Int)) (j := 1))) (by simp))) eo_none
      rw [cutN_take] at a1
      rw [cutN_drop] at a2
      exact ep_catG a1 a2 (by rw [List.length_take, List.length_drop]; omega)
    · rw [filter_yes] at r
      unfold CL.shorterM IsGs
      rw [List.map_map]
      exact r
    · have hd3 := e3 _ _ hd
      have hg3 := (stt_G g).x _ _ _ e3 hg
      have hJ3 := stx_J C n js _ _ _ e3 hJ
      have tst : EvT (tAnd (tB (tCB (rAll K) (tCons (tLc (iList K (tVar 3)) (gName 5) tYes (tDIn (tVar 5) (tVar 1)) [5]) tNil))) (tTest (tOp (rI0 fun i j => .bl (decide (j ≤ i))) (tCB (rLenN K) (tCons (tCall spOpen [] E0 (tCons (tFld K (tVar 0) "jobs") (tCons (tVar 2) tNil))) tNil)) (tCB (rLenN K) (tCons (tVar 2) tNil)))))
          [some v1, some (V.ref pd), some v, some vs, none, none] H3 (CL.canF js g) := by
        refine et_is (et_and (et_B (ev_all (bs := (CL.shorterM g).map fun o => (((CL.groupsM n).take i).filter (CL.canF js)).contains o) ((lcL (CL.shorterM g) IsG (fun o => IsV (.bl ((((CL.groupsM n).take i).filter (CL.canF js)).contains o))) (fun _ => true) (ep_var rfl hs (stx_Gs _)) (fun a => (stt_G a).x) (fun _ => stt_V _) ?_ (fun _ => rfl) (fun a v H4 _ _ _ => et_yes) (fun o v H4 ho e4 hv _ => ?_)).imp fun v H4 _ r => ?_)))
          fun _ => et_test (ev_op (ev_lenG (use_open (ep_jobs T (ep_var rfl hJ3 (stx_J C n js))) (ep_var rfl hg3 (stt_G g).x) hj (by omega))) (ev_lenG (ep_var rfl hg3 (stt_G g).x)) rv_I0)) ?_
        · unfold CL.shorterM
          rw [List.length_map, List.length_range]
          omega
        · exact ep_ev (ev_dIn (ep_var rfl hv (stt_G o).x) (ep_var rfl ⟨pd, rfl, e4 _ _ hd3⟩ (stx_D _ _)))
        · rw [filter_yes] at r
          exact isB_map r
        · rw [← CL.plCond_iff split]
          unfold CL.plCond
          rw [List.all_map]
          congr 1
          rw [Bool.eq_iff_iff, decide_eq_true_iff, decide_eq_true_iff]
          omega
      refine s_when tst (fun hb H4 e4 => ?_) fun hb H4 e4 => ?_
      · have hd4 := e4 _ _ hd3
        refine s_dput (L := ((CL.groupsM n).take i).filter (CL.canF js)) (f := fun _ => .bl true) ev_c (ev_var rfl) hd4 (ep_var rfl ((stt_G g).x _ _ _ e4 hg3) (stt_G g).x) ?_ (by omega) fun H5 e5 => ?_
        · rw [List.contains_eq_mem, decide_eq_false_iff_not]
          exact fun z => nd (List.mem_filter.mp z).1
        · have hd5 := e5 _ _ hd4
          refine ⟨_, _, rfl, Ex.mut (((eH.trans e3).trans e4).trans e5) hpd, (lt.trans (LTx.of ((e3.trans e4).trans e5))).trans (LTx.dict hd5), ?_⟩
          rw [tk, List.filter_append, List.filter_cons, if_pos hb]
          exact upd_same
      · refine ⟨_, _, rfl, (eH.trans e3).trans e4, lt.trans (LTx.of (e3.trans e4)), ?_⟩
        rw [tk, List.filter_append, List.filter_cons, if_neg (by rw [hb]; decide)]
        simp only [List.filter_nil, List.append_nil]
        exact e4 _ _ hd3
  · rintro H2 σ' H' e2 ⟨x2, x3, rfl, eH, lt, hd⟩
    rw [List.take_length] at hd
    refine p_ret (R := IsGs (CL.plM n js)) (ep_lstD (L := CL.plM n js) (f := fun _ => .bl true) (ep_var rfl ⟨pd, rfl, hd⟩ (stx_D _ _))) fun v H3 e3 r => k v H3 (eH.trans e3) r
end
end CW

/-! CW6: the class: __init__, __eq__, __abs__, open_to, picked, turned. -/
namespace CW
open PySem L2 Evl CE
section
variable {K : PySem.W.Frag} {mg : Str → Option Value} {C : Addr} {σ : L2.St} {H : Hp} {E : XK} {ta t1 t2 te : TE} {js : List (List Nat)} {g : List Nat} {n : Nat}
theorem ep_meth {sp : Sp} {m : Str} {t : TA} {Ps : List VP} {R : VP} (h : EvP ta σ H (IsJ C n js)) (h1 : ¬ m = "jobs") (h2 : ¬ m = "size") (ht : EvAP t σ H Ps) (hr : ∀ v vs H1, Ex H H1 → IsJ C n js v H1 → AllP Ps vs H1 → SpP sp (v :: vs) H1 R) : EvP (tMeth C m sp [] E ta t) σ H R := fun H1 e Q q =>
  h H1 e _ fun v H2 e2 hv => by
    obtain ⟨a, dx, tt, hv1, ha, htt⟩ := id hv
    refine ⟨a, dx, _, hv1, ha, jfs_no n tt h1 h2, ht H2 (e.trans e2) _ fun vs H3 e3 hvs => ?_⟩
    rw [List.append_nil]
    exact hr v vs H3 ((e.trans e2).trans e3) (stx_J C n js _ _ _ e3 hv) hvs H3 (Ex.refl _) Q E fun v H4 e4 => q v H4 ((e2.trans e3).trans e4)
theorem ep_tupRg (h : Ev ta σ H (nV n)) (hn : n ≤ 100) : EvP (tTupRg (tRg1 ta)) σ H (IsG (List.range n)) := fun H1 e Q q => h H1 e _ fun H2 e2 => ⟨(n : Int), rfl, RgOk.of_le (by omega) (by omega) (by omega) (by omega), fun l hl => q (.ref l) _ (e2.trans (Ex.new hl)) ⟨l, rfl, by
  rw [upd_same]
  congr 2
  unfold rgV eN
  have : ((n : Int) - 0).toNat = n := by omega
  rw [this]
  exact List.map_congr_left fun i _ => by show V.int (0 + (i : Int)) = V.int (i : Int); rw [Int.zero_add]⟩⟩
theorem ep_lstRg (h : Ev ta σ H (nV n)) (hn : n ≤ 100) : EvP (tLstRg (tRg1 ta)) σ H (IsN (List.range n)) := fun H1 e Q q => h H1 e _ fun H2 e2 => ⟨(n : Int), rfl, RgOk.of_le (by omega) (by omega) (by omega) (by omega), fun l hl => q (.ref l) _ (e2.trans (Ex.new hl)) ⟨l, rfl, by
  rw [upd_same]
  congr 2
  unfold rgV eN
  have : ((n : Int) - 0).toNat = n := by omega
  rw [this]
  exact List.map_congr_left fun i _ => by show V.int (0 + (i : Int)) = V.int (i : Int); rw [Int.zero_add]⟩⟩
end
section
variable {P : Program} {w : World} {K : PySem.W.Frag} {mg : Str → Option Value} {base : Heap} {C : Addr}
/-! ### open_to -/
def spOpenTo (C : Addr) : Sp := PrF (fun a : Nat × List (List Nat) × List Nat => [IsJ C a.1 a.2.1, IsG a.2.2]) (fun a => a.2.1.length ≤ 7 ∧ a.2.2.length ≤ 7) (fun a => IsG (CL.openM a.2.1 a.2.2))
theorem scOpenTo : FnScope ["self", "group"] ["self", "group"] (defScope sOpenTo) := ⟨rfl, rfl, rfl, by decide +kernel, rfl, by decide +kernel, by decide +kernel⟩
theorem ok_openTo {f : Addr} {fd : FuncData} (F : Fun K "open_to" "Jobs.open_to" sOpenTo f fd) (T : TJ K mg C) (C1 : Cal P w K mg base 1 "open_indexes" ["jobs", "group"] spOpen) : FnOk P w K mg base CX0 2 f fd ["self", "group"] (spOpenTo C) := by
  refine F.ok scOpenTo (prF_len fun _ => rfl) (fun cdv A outer s H vs Q E hr h => ?_)
  obtain ⟨⟨n, js, g⟩, ⟨hj, hg⟩, hi, k⟩ := h
  obtain ⟨v1, v2, rfl, h1, h2⟩ := allP2 hi
  have h1 : IsJ C n js v1 H := h1
  have h2 : IsG g v2 H := h2
  refine ⟨_, pss_one (ps_ret (pe_fn C1 hr (pa_cons (k_fld K (pv 0)) (pa_cons (pv 1) pa_nil)))), ?_⟩
  exact p_ret (R := IsG (CL.openM js g)) (use_open (ep_jobs T (ep_var rfl h1 (stx_J C n js))) (ep_var rfl h2 (stt_G g).x) hj hg) fun v H1 e r => k v H1 e r
theorem use_openTo {σ : L2.St} {H : Hp} {E : XK} {t1 t2 : TE} {js : List (List Nat)} {g : List Nat} {n : Nat} (h1 : EvP t1 σ H (IsJ C n js)) (h2 : EvP t2 σ H (IsG g)) (hj : js.length ≤ 7) (hg : g.length ≤ 7) :
    EvP (tMeth C "open_to" (spOpenTo C) [] E t1 (tCons t2 tNil)) σ H (IsG (CL.openM js g)) := by
  refine ep_meth h1 (by decide +kernel) (by decide +kernel) (eap_cons h2 (stt_G g).x eap_nil) fun v vs H1 e hv hvs => ?_
  unfold spOpenTo
  exact prF_use (ins := fun a : Nat × List (List Nat) × List Nat => [IsJ C a.1 a.2.1, IsG a.2.2]) (out := fun a => IsG (CL.openM a.2.1 a.2.2)) (n, js, g) ⟨hj, hg⟩ (stx2 (stx_J C n js) (stt_G g).x) ⟨hv, hvs⟩
/-! ### __eq__ -/
def spEq (C : Addr) : Sp := PrF (fun a : (Nat × List (List Nat)) × (Nat × List (List Nat)) => [IsJ C a.1.1 a.1.2, IsJ C a.2.1 a.2.2]) (fun _ => True) (fun a => IsV (.bl (decide (a.1.1 = a.2.1) && decide (a.1.2 = a.2.2))))
theorem scEq : FnScope ["self", "other"] ["self", "other"] (defScope sEq) := ⟨rfl, rfl, rfl, by decide +kernel, rfl, by decide +kernel, by decide +kernel⟩
theorem ok_eq {f : Addr} {fd : FuncData} (F : Fun K "__eq__" "Jobs.__eq__" sEq f fd) (B : Bf mg) (T : TJ K mg C) : FnOk P w K mg base CX0 1 f fd ["self", "other"] (spEq C) := by
  refine F.ok scEq (prF_len fun _ => rfl) (fun cdv A outer s H vs Q E hr h => ?_)
  obtain ⟨⟨⟨n, js⟩, ⟨n2, js2⟩⟩, _, hi, k⟩ := h
  obtain ⟨v1, v2, rfl, h1, h2⟩ := allP2 hi
  have h1 : IsJ C n js v1 H := h1
  have h2 : IsJ C n2 js2 v2 H := h2
  have hu := hr.units
  refine ⟨_, pss_one (ps_ret (pe_and (pe_b (C8.call_isC T.ins) B.isinstance PyProof.Rows.boot_isinstance (pa_cons (pv 1) (pa_cons (pe_glob (v := .ref C) (by rfl) T.mgC rfl) pa_nil)))
    (pe_and (pe_cmpR op_eq (k_fld K (pv 0)) (k_fld K (pv 1)) (nomark _)) (pe_one (pe_cmpR (k_eqD K hu) (k_fld K (pv 0)) (k_fld K (pv 1)) (nomark _)))))), ?_⟩
  refine s_ret (v := .bl (true && (decide ((n : Int) = (n2 : Int)) && decide (js = js2)))) (ev_andV ?_ fun _ => ev_andV ?_ fun _ => ev_eqTG (ep_jobs T (ep_var rfl h1 (stx_J C n js))) (ep_jobs T (ep_var rfl h2 (stx_J C n2 js2)))) fun H1 e => k _ H1 e ?_
  · refine fun H1 e Q q => ⟨v2, rfl, ?_⟩
    obtain ⟨a, dx, t, rfl, ha, _⟩ := h2
    exact ⟨a, dx, _, rfl, e a _ ha, q H1 (Ex.refl _)⟩
  · refine ev_is (ev_op (ev_size T (ep_var rfl h1 (stx_J C n js))) (ev_size T (ep_var rfl h2 (stx_J C n2 js2))) (rv_eq rfl)) ?_
    congr 1
    rw [Bool.eq_iff_iff, decide_eq_true_iff, decide_eq_true_iff]
    exact ⟨fun z => V.int.inj z, fun z => by rw [nV, z]⟩
  · show V.bl (true && (decide ((n : Int) = (n2 : Int)) && decide (js = js2))) = V.bl (decide (n = n2) && decide (js = js2))
    rw [Bool.true_and]
    congr 2
    rw [Bool.eq_iff_iff, decide_eq_true_iff, decide_eq_true_iff]
    omega
/-! ### __abs__ -/
def spAbs (C : Addr) : Sp := PrF (fun a : Nat × List (List Nat) => [IsJ C a.1 a.2]) (fun a => a.1 ≤ 7 ∧ a.2.length ≤ 7) (fun a => IsV (nV (CL.full a.1 a.2)))
theorem scAbs : FnScope ["self"] ["self"] (defScope sAbs) := ⟨rfl, rfl, rfl, by decide +kernel, rfl, by decide +kernel, by decide +kernel⟩
theorem ok_abs {f : Addr} {fd : FuncData} (F : Fun K "__abs__" "Jobs.__abs__" sAbs f fd) (B : Bf mg) (T : TJ K mg C) (C1 : Cal P w K mg base 3 "strength_of" ["jobs", "group"] spStrengthOf) : FnOk P w K mg base CX0 4 f fd ["self"] (spAbs C) := by
  refine F.ok scAbs (prF_len fun _ => rfl) (fun cdv A outer s H vs Q E hr h => ?_)
  obtain ⟨⟨n, js⟩, ⟨hn, hj⟩, hi, k⟩ := h
  obtain ⟨v1, rfl, h1⟩ := allP1 hi
  have h1 : IsJ C n js v1 H := h1
  have hn : n ≤ 7 := hn
  refine ⟨_, pss_one (ps_ret (pe_fn C1 hr (pa_cons (k_fld K (pv 0)) (pa_cons (pe_tupRg rfl (by rfl) B.tuple (prg_1 (by rfl) B.range (k_fld K (pv 0)))) pa_nil)))), ?_⟩
  refine p_ret (R := IsV (nV (CL.full n js))) (EvP.imp (P := fun v _ => ∃ m, CL.IsMax js (List.range n) m ∧ v = .int (((List.range n).length : Int) - m)) ?_ fun v H1 e ⟨m, hm, hv⟩ => ?_) fun v H1 e r => k v H1 e r
  · unfold spStrengthOf
    exact ep_fn (out := fun (a : List (List Nat) × List Nat) v _ => ∃ m, CL.IsMax a.1 a.2 m ∧ v = .int ((a.2.length : Int) - m)) (js, List.range n) (eap_cons (ep_jobs T (ep_var rfl h1 (stx_J C n js))) (stt_TG js).x (eap_cons (ep_tupRg (ev_size T (ep_var rfl h1 (stx_J C n js))) (by omega)) (stt_G _).x eap_nil)) ⟨hj, by show (List.range n).length ≤ 7; rw [List.length_range]; exact hn⟩ (stx2 (stt_TG js).x (stt_G _).x)
  · show v = nV (CL.full n js)
    rw [hv, List.length_range, CL.full_eq hm]
/-! ### __init__ -/
/-- from an instance without attributes at p: p becomes a Jobs, all else stands -/
def spInit (C : Addr) : Sp := fun vs H Q _ => ∃ (p dx : Addr) (n : Nat) (js : List (List Nat)) (v : V), vs = [.ref p, nV n, v] ∧ H p = some (.ins C dx []) ∧ n ≤ 7 ∧ js.length ≤ 7 ∧ CL.WF n js ∧ IsGs js v H ∧
  ∀ H', (∀ b o, b ≠ p → H b = some o → H' b = some o) → IsJ C n js (.ref p) H' → Q .non H'
theorem scInit : FnScope ["self", "size", "jobs", "at", "job"] ["self", "size", "jobs"] (defScope sInit) := ⟨rfl, rfl, rfl, by decide +kernel, rfl, by decide +kernel, by decide +kernel⟩
theorem ok_init {f : Addr} {fd : FuncData} {t1 t2 : Tok} (F : Fun K "__init__" "Jobs.__init__" sInit f fd) (B : Bf mg) (T : TJ K mg C) (g1 : mg "MOST_SIZE" = some (.int 7 t1)) (g2 : mg "MOST_JOBS" = some (.int 7 t2))
    (C1 : Cal P w K mg base 2 "is_between" ["thing", "least", "most"] spIsBetween) (C2 : Cal P w K mg base 1 "is_listed" ["thing", "most"] spIsListed) (C3 : Cal P w K mg base 3 "is_group" ["size", "thing"] spIsGroup) : FnOk P w K mg base CX0 4 f fd ["self", "size", "jobs"] (spInit C) := by
  refine F.ok scInit (fun vs H Q E h => ?_) (fun cdv A outer s H vs Q E hr h => ?_)
  · obtain ⟨p, dx, n, js, v, rfl, _⟩ := h
    rfl
  obtain ⟨p, dx, n, js, v, rfl, hp, hn, hj, hwf, hv, k⟩ := h
  refine ⟨_, pss_cons (ps_if (pt_not (pt_val (pe_fn C1 (hr.mono (by decide)) (pa_cons (pv 1) (pa_cons pe_int (pa_cons (pe_glob (v := .int 7) (by rfl) g1 ⟨_, rfl⟩) pa_nil)))))) (pss_one ps_never) pss_nil)
    (pss_cons (ps_if (pt_not (pt_val (pe_fn C2 (hr.mono (by decide)) (pa_cons (pv 2) (pa_cons (pe_glob (v := .int 7) (by rfl) g2 ⟨_, rfl⟩) pa_nil))))) (pss_one ps_never) pss_nil)
    (pss_cons (ps_for PassesOwn.never rfl (pi_enum (by rfl) B.enumerate (pa_cons (pv 2) pa_nil)) (k_gtup K (pgs_cons (pg_name (i := 3) scInit.nd rfl (Or.inl rfl)) (pgs_cons (pg_name (i := 4) scInit.nd rfl (Or.inl rfl)) pgs_nil)))
      (pss_one (ps_if (pt_not (pt_val (pe_fn C3 hr (pa_cons (pv 1) (pa_cons (pv 4) pa_nil))))) (pss_one ps_never) pss_nil)))
    (pss_cons (ps_fld (pv 0) (pv 1) rfl)
    (pss_one (ps_fld (pv 0) (pe_ty (k_tup K) B.tuple PyProof.Rows.boot_tuple (pa_cons (pv 2) pa_nil)) rfl))))), ?_⟩
  have use3 : ∀ {σ : L2.St} {H : Hp} {E : XK} {ta tb tc : TE} {i l m : Int}, Ev ta σ H (.int i) → Ev tb σ H (.int l) → Ev tc σ H (.int m) → Ev (tCall spIsBetween [] E (tCons ta (tCons tb (tCons tc tNil)))) σ H (.bl (decide (l ≤ i ∧ i ≤ m))) := fun {σ H E ta tb tc i l m} a b c => by
    unfold spIsBetween
    exact ev_ep (ep_fn (out := fun a : Int × Int × Int => IsV (.bl (decide (a.2.1 ≤ a.1 ∧ a.1 ≤ a.2.2)))) (i, l, m) (eap_cons (ep_ev a) (stt_V _).x (eap_cons (ep_ev b) (stt_V _).x (eap_cons (ep_ev c) (stt_V _).x eap_nil))) trivial (stx3 (stt_V _).x (stt_V _).x (stt_V _).x))
  refine q_when (b := false) (et_is (et_not (et_B (use3 (i := (n : Int)) (l := 0) (m := 7) (ev_var rfl) ev_c ev_c))) (by rw [decide_eq_true (show (0 : Int) ≤ (n : Int) ∧ (n : Int) ≤ 7 by omega)]; rfl)) (fun z => by cases z) fun _ H1 e1 => ?_
  refine q_when (b := false) (et_not (a := true) (et_B (ev_ep ?_)) |> fun z => et_is z rfl) (fun z => by cases z) fun _ H2 e2 => ?_
  · unfold spIsListed
    exact ep_fn (out := fun _ : List (List Nat) × Nat => IsV (.bl true)) (js, 7) (eap_cons (ep_var rfl (stx_Gs js _ _ _ e1 hv) (stx_Gs js)) (stx_Gs js) (eap_cons (ep_ev ev_c) (stt_V _).x eap_nil)) hj (stx2 (stx_Gs js) (stt_V _).x)
  obtain ⟨a, xs, rfl, ha, hx⟩ := id hv
  have hl := hx.len
  rw [List.length_map] at hl
  refine ⟨.ref a, rfl, a, xs, rfl, sq_of (e2 _ _ (e1 _ _ ha)), ?_⟩
  refine for_it (walk_enum (xs := xs)) (fun i σ' H' => ∃ x3 x4, σ' = [some (.ref p), some (nV n), some (.ref a), x3, x4] ∧ Ex H2 H') ⟨none, none, rfl, Ex.refl _⟩ (fun i σ' H' _ ⟨_, _, _, e3⟩ => sq_of (e3 _ _ (e2 _ _ (e1 _ _ ha)))) ?_ ?_
  · rintro i x σ' H' H'' hi ⟨x3, x4, rfl, e3⟩ ⟨Tt, y1, y2, rfl, hT, rfl, h1, h2⟩
    cases h1
    have eT : Ex H' (upd H' Tt (.tup [.int (i : Nat), y2])) := Ex.new hT
    obtain ⟨g, hg, hgv⟩ := gs_at hx h2
    have gm : g ∈ js := List.mem_of_getElem? hg
    have gg := hwf g gm
    refine ⟨Tt, _, rfl, st_of upd_same, rfl, _, _, rfl, _, _, rfl, rfl, ?_⟩
    refine s_when (b := false) (et_not (a := true) (et_B (ev_ep ?_)) |> fun z => et_is z rfl) (fun z => by cases z) fun _ H3 e4 => ⟨_, _, rfl, (e3.trans eT).trans e4⟩
    unfold spIsGroup
    exact ep_fn (out := fun _ : Nat × List Nat => IsV (.bl true)) (n, g) (eap_cons (ep_ev (ev_var rfl)) (stt_V _).x (eap_cons (ep_var rfl ((stt_G g).x _ _ _ (((e1.trans e2).trans e3).trans eT) hgv) (stt_G g).x) (stt_G g).x eap_nil)) ⟨gg, by have := gg.len; show g.length ≤ 7; omega⟩ (stx2 (stt_V _).x (stt_G g).x)
  · rintro σ' H' ⟨x3, x4, rfl, e3⟩
    have eH := (e1.trans e2).trans e3
    have hp' := eH _ _ hp
    refine ⟨_, rfl, _, rfl, p, C, dx, [], rfl, hp', T.cl, T.nS, (by show 0 < 1000; decide), ?_⟩
    have hpa : a ≠ p := fun z => by
      rw [z, hp] at ha
      cases ha
    have ha' : (upd H' p (.ins C dx (putF "size" (nV n) []))) a = some (.lst xs) := by rw [upd_ne hpa]; exact eH _ _ ha
    refine ⟨_, rfl, a, xs, rfl, Or.inl ⟨sq_of ha', fun l hl => ?_⟩⟩
    have hlp : p ≠ l := fun z => by
      rw [← z, upd_same] at hl
      cases hl
    refine ⟨_, rfl, p, C, dx, _, rfl, (by rw [upd_ne hlp]; exact upd_same), T.cl, T.nJ, (by show 1 < 1000; decide), ?_⟩
    have hH'l : H' l = none := by
      rw [upd_ne (Ne.symm hlp)] at hl
      exact hl
    refine k _ (fun b o hb e => ?_) ⟨p, dx, .ref l, rfl, upd_same, l, xs, rfl, ?_, ?_⟩
    · have hbl : b ≠ l := fun z => by
        have := eH _ _ e
        rw [z, hH'l] at this
        cases this
      rw [upd_ne hb, upd_ne hbl, upd_ne hb]
      exact eH _ _ e
    · rw [upd_ne (Ne.symm hlp), upd_same]
    · refine hx.tx (fun b ys e => ?_) all_G
      have hbp : b ≠ p := fun z => by
        rw [z, hp] at e
        cases e
      have hbl : b ≠ l := fun z => by
        have := eH _ _ e
        rw [z, hH'l] at this
        cases this
      rw [upd_ne hbp, upd_ne hbl, upd_ne hbp]
      exact eH _ _ e
end
end CW

/-! CW7: picked, turned. -/
namespace CL
theorem wf_pick {n : Nat} {js : List (List Nat)} {s : List Nat} (h : WF n js) (hs : ∀ j ∈ s, j < js.length) : WF n (pickJ js s) := fun g hg => by
  unfold pickJ at hg
  obtain ⟨j, hj, rfl⟩ := List.mem_map.mp hg
  have := hs j hj
  rw [List.getD_eq_getElem?_getD, List.getElem?_eq_getElem this]
  exact h _ (List.getElem_mem this)
theorem open_one (js : List (List Nat)) (p : Nat) : openM js [p] = (List.range js.length).filter fun j => (js.getD j []).contains p := by
  unfold openM
  refine List.filter_congr fun j _ => ?_
  simp
end CL
namespace CW
open PySem L2 Evl CE
/-- Jobs(..) may be made -/
def CalI (P : Program) (w : World) (K : PySem.W.Frag) (mg : Str → Option Value) (base : Heap) (k : Nat) (C : Addr) : Prop :=
  ∃ (f : Addr) (fd : FuncData), FnOk P w K mg base CX0 k f fd ["self", "size", "jobs"] (spInit C) ∧ Mk K C f ∧ Binds K fd ["self", "size", "jobs"] []
section
variable {X : Cx} {k : Nat} {e : Expr} {es : List Expr} {t : TA} {p pos : Pos} {C : Addr}
theorem pe_mk (T : TJ X.K X.mg C) (M : CalI X.prog X.w X.K X.mg X.base k C) (hr : Room (k + 1) X.A) (ha : PA X (e :: es) t) (hg : Gl X "Jobs" := by rfl)
    (he : starEach (e :: es) X.env = (false, eval e X.env) :: starEach es X.env := by rfl) (hpl : (backTo pos (starEach es X.env)).any (·.1) = false := by rfl) : PE X (.Call (.Name "Jobs" p) (e :: es) [] pos) (tMake C (spInit C) [] E0 t) := by
  obtain ⟨f, fd, F, hm, hb⟩ := M
  exact pe_make hm F hr hg T.mgC hb .nil pass0 ha (by decide) he hpl
end
theorem use_make {C : Addr} {σ : L2.St} {H : Hp} {E : XK} {t1 t2 : TE} {n : Nat} {js : List (List Nat)} (h1 : Ev t1 σ H (nV n)) (h2 : EvP t2 σ H (IsGs js)) (hn : n ≤ 7) (hj : js.length ≤ 7) (hw : CL.WF n js) : EvP (tMake C (spInit C) [] E (tCons t1 (tCons t2 tNil))) σ H (IsJ C n js) := fun H1 e Q q =>
  h1 H1 e _ fun H2 e2 => h2 H2 (e.trans e2) _ fun v H3 e3 hv => fun x dx hx hdx hne => by
    have ex : Ex H3 (upd (upd H3 dx (.own x)) x (.ins C dx [])) := fun a o h => by
      rw [upd_ne (ne_of_none h hx), upd_ne (ne_of_none h hdx)]
      exact h
    refine ⟨x, dx, n, js, v, rfl, upd_same, hn, hj, hw, stx_Gs js _ _ _ ex hv, fun H' hk hJ => ⟨rfl, q _ H' ((e2.trans e3).trans fun a o h => hk a o (ne_of_none h hx) (ex a o h)) hJ⟩⟩
section
variable {P : Program} {w : World} {K : PySem.W.Frag} {mg : Str → Option Value} {base : Heap} {C : Addr}
/-! ### picked -/
def spPicked (C : Addr) : Sp := PrF (fun a : Nat × List (List Nat) × List Nat => [IsJ C a.1 a.2.1, IsG a.2.2]) (fun a => a.1 ≤ 7 ∧ a.2.1.length ≤ 7 ∧ CL.WF a.1 a.2.1 ∧ CL.Grp a.2.1.length a.2.2) (fun a => IsJ C a.1 (CL.pickJ a.2.1 a.2.2))
theorem scPicked : FnScope ["self", "indexes", "at"] ["self", "indexes"] (defScope sPicked) := ⟨rfl, rfl, rfl, by decide +kernel, rfl, by decide +kernel, by decide +kernel⟩
theorem ok_picked {f : Addr} {fd : FuncData} (F : Fun K "picked" "Jobs.picked" sPicked f fd) (T : TJ K mg C) (M : CalI P w K mg base 4 C) : FnOk P w K mg base CX0 6 f fd ["self", "indexes"] (spPicked C) := by
  refine F.ok scPicked (prF_len fun _ => rfl) (fun cdv A outer s H vs Q E hr h => ?_)
  obtain ⟨⟨n, js, s⟩, ⟨hn, hj, hw, hs⟩, hi, k⟩ := h
  obtain ⟨v1, v2, rfl, h1, h2⟩ := allP2 hi
  have h1 : IsJ C n js v1 H := h1
  have h2 : IsG s v2 H := h2
  have hj : js.length ≤ 7 := hj
  have hs : CL.Grp js.length s := hs
  refine ⟨_, pss_one (ps_ret (pe_mk T M hr (pa_cons (k_fld K (pv 0)) (pa_cons (pe_lc (own := [("at", 2)]) (g := gName 2) (tt := tYes) rfl scPicked.nd (k_pit K (pv 1)) (blkOk_by (by kernel_rfl)) (fun _ _ _ _ _ => pg_name (i := 2) scPicked.nd rfl (Or.inl rfl)) (fun _ _ _ _ _ => pts_nil)
    (fun _ _ _ _ _ => pe_ix (k_ixT K) (k_fld K (pv 0)) (pv 2) (fun _ _ => rfl))) pa_nil)))), ?_⟩
  refine p_ret (R := IsJ C n (CL.pickJ js s)) (use_make (ev_size T (ep_var rfl h1 (stx_J C n js))) ((lcG s (fun j => IsG (js.getD j [])) (fun _ => true) (ep_var rfl h2 (stt_G s).x) (fun _ => stt_G _) (by have := hs.len; omega) (fun _ => rfl) (fun a H1 _ _ => et_yes) (fun j H1 hjs e _ => ?_)).imp fun v H1 _ r => ?_) hn ?_ (CL.wf_pick hw fun j hj => hs.lt j hj)) fun v H1 e r => k v H1 e r
  · have hlt := hs.lt j hjs
    refine ep_ixT (Ps := js.map IsG) (ep_jobs T (ep_var rfl (stx_J C n js _ _ _ e h1) (stx_J C n js))) (fun P hP => (all_G P hP).x) (ev_var rfl) ?_
    rw [List.getElem?_map, List.getD_eq_getElem?_getD, List.getElem?_eq_getElem hlt]
    rfl
  · rw [filter_yes] at r
    unfold CL.pickJ IsGs
    rw [List.map_map]
    exact r
  · unfold CL.pickJ
    rw [List.length_map]
    have := hs.len
    omega
theorem use_picked {σ : L2.St} {H : Hp} {E : XK} {t1 t2 : TE} {js : List (List Nat)} {g : List Nat} {n : Nat} (h1 : EvP t1 σ H (IsJ C n js)) (h2 : EvP t2 σ H (IsG g)) (hn : n ≤ 7) (hj : js.length ≤ 7) (hw : CL.WF n js) (hg : CL.Grp js.length g) :
    EvP (tMeth C "picked" (spPicked C) [] E t1 (tCons t2 tNil)) σ H (IsJ C n (CL.pickJ js g)) := by
  refine ep_meth h1 (by decide +kernel) (by decide +kernel) (eap_cons h2 (stt_G g).x eap_nil) fun v vs H1 e hv hvs => ?_
  unfold spPicked
  exact prF_use (ins := fun a : Nat × List (List Nat) × List Nat => [IsJ C a.1 a.2.1, IsG a.2.2]) (out := fun a => IsJ C a.1 (CL.pickJ a.2.1 a.2.2)) (n, js, g) ⟨hn, hj, hw, hg⟩ (stx2 (stx_J C n js) (stt_G g).x) ⟨hv, hvs⟩
/-! ### turned -/
def spTurned (C : Addr) : Sp := PrF (fun a : Nat × List (List Nat) => [IsJ C a.1 a.2]) (fun a => a.1 ≤ 7 ∧ a.2.length ≤ 7) (fun a => IsJ C a.2.length (CL.turnM a.1 a.2))
theorem scTurned : FnScope ["self", "person"] ["self"] (defScope sTurned) := ⟨rfl, rfl, rfl, by decide +kernel, rfl, by decide +kernel, by decide +kernel⟩
theorem ok_turned {f : Addr} {fd : FuncData} (F : Fun K "turned" "Jobs.turned" sTurned f fd) (B : Bf mg) (T : TJ K mg C) (M : CalI P w K mg base 4 C) (C1 : CalM P w K mg base 2 C "open_to" ["self", "group"] (spOpenTo C)) : FnOk P w K mg base CX0 6 f fd ["self"] (spTurned C) := by
  refine F.ok scTurned (prF_len fun _ => rfl) (fun cdv A outer s H vs Q E hr h => ?_)
  obtain ⟨⟨n, js⟩, ⟨hn, hj⟩, hi, k⟩ := h
  obtain ⟨v1, rfl, h1⟩ := allP1 hi
  have h1 : IsJ C n js v1 H := h1
  have hj : js.length ≤ 7 := hj
  have hn : n ≤ 7 := hn
  refine ⟨_, pss_one (ps_ret (pe_mk T M hr (pa_cons (pe_b (k_len K) B.len PySem.boot_len (pa_cons (k_fld K (pv 0)) pa_nil)) (pa_cons (pe_lc (own := [("person", 1)]) (g := gName 1) (tt := tYes) rfl scTurned.nd (pi_range1 (by rfl) B.range (pa_cons (k_fld K (pv 0)) pa_nil)) (blkOk_by (by kernel_rfl)) (fun _ _ _ _ _ => pg_name (i := 1) scTurned.nd rfl (Or.inl rfl)) (fun _ _ _ _ _ => pts_nil)
    (fun _ _ _ _ _ => pe_mth T C1 (hr.mono (by decide)) (pv 0) (pa_cons (pe_tup (pa_cons (pv 1) pa_nil)) pa_nil))) pa_nil)))), ?_⟩
  refine p_ret (R := IsJ C js.length (CL.turnM n js)) (use_make (n := js.length) (ev_is (ev_lenT (ep_jobs T (ep_var rfl h1 (stx_J C n js)))) (by rw [List.length_map])) ((lcRg n (fun p => IsG (CL.openM js [p])) (fun _ => true) (ea_cons (ev_size T (ep_var rfl h1 (stx_J C n js))) ea_nil) (fun _ => stt_G _) (by omega) (fun _ => rfl) (fun a H1 _ _ => et_yes) (fun p H1 hp e _ => ?_)).imp fun v H1 _ r => ?_) hj (by rw [CL.turn_len]; exact hn) (CL.wf_turn n js)) fun v H1 e r => k v H1 e r
  · exact use_openTo (ep_var rfl (stx_J C n js _ _ _ e h1) (stx_J C n js)) (ep_one (ev_var rfl)) hj (by show 1 ≤ 7; decide)
  · rw [filter_yes] at r
    unfold CL.turnM IsGs
    rw [List.map_map]
    have e2 : (List.range n).map (fun p => IsG (CL.openM js [p])) = (List.range n).map (IsG ∘ fun p => (List.range js.length).filter fun j => (js.getD j []).contains p) := List.map_congr_left fun p _ => by
      show IsG (CL.openM js [p]) = IsG _
      rw [CL.open_one]
    rw [← e2]
    exact r
theorem use_turned {σ : L2.St} {H : Hp} {E : XK} {t1 : TE} {js : List (List Nat)} {n : Nat} (h1 : EvP t1 σ H (IsJ C n js)) (hn : n ≤ 7) (hj : js.length ≤ 7) : EvP (tMeth C "turned" (spTurned C) [] E t1 tNil) σ H (IsJ C js.length (CL.turnM n js)) := by
  refine ep_meth h1 (by decide +kernel) (by decide +kernel) eap_nil fun v vs H1 e hv hvs => ?_
  unfold spTurned
  exact prF_use (ins := fun a : Nat × List (List Nat) => [IsJ C a.1 a.2]) (out := fun a => IsJ C a.2.length (CL.turnM a.1 a.2)) (n, js) ⟨hn, hj⟩ (stx1 (stx_J C n js)) ⟨hv, hvs⟩
end
end CW

/-! CG1: statements of a generator, step by step, the state as it is. -/
namespace CG
open PySem PySem.Spec PyProof.Rows L2 GenW
/-- nothing is raised -/
abbrev NX : Value → Shared → Prop := fun _ _ => False
section
variable {M : Model} {A : Around} {R : GenEnd} {Y : Protocol} {n : Nat} {s₀ : Shared} {c : Code} {fs : List Frame} {s : Shared} {env : Env}
  {K : Flow → Sem PySem.Fin} {J : Value → Sem PySem.Fin} {gd : Bool → Bool} {lv : List Value → List Value}
theorem seg_If {test : Expr} {body orelse : List Stmt} {pos : Pos} (h : wpAny M (A.over c fs) (isTrue test env (eval test env)) (fun b s' => Seg M A R Y n s₀ c ((execs (if b then body else orelse) env).wrap K J gd lv) fs s') NX s) :
    Seg M A R Y n s₀ c ((exec (.If test body orelse pos) env).wrap K J gd lv) fs s := by
  rw [exec_If]
  show Seg M A R Y n s₀ c (.at pos fun _ => ((isTrue test env (eval test env)) >>= fun b => if b = true then execs body env else execs orelse env).wrap K J gd lv) fs s
  refine seg_at (seg_bind_wrap (wpAny_mono h (fun b s' hb => ?_) fun _ _ x => x.elim))
  cases b <;> exact hb
theorem seg_For {target iter : Expr} {body orelse : List Stmt} {pos : Pos}
    (h : wpAny M (A.over c fs) (eval iter env) (fun x s₁ => wpAny M (A.over c fs) (pyIter x) (fun it s₂ => ∀ p, Seg M A R Y n s₀ (.forLoop target it body orelse env) (M.den (.forLoop target it body orelse env))
      (.ret (fun r => ((match r with | .ok f => (.pure f : Sem Flow) | .error e => .raise e).onRaise (cameBack env)).wrap K J gd lv) none (gd false) (lv []) c p [] :: fs) s₂) NX s₁) NX s)
    (hs : ∀ x, foldedSetIterable iter env x = pure x := by intro _; rfl) :
    Seg M A R Y n s₀ c ((exec (.For target iter body orelse pos) env).wrap K J gd lv) fs s := by
  rw [exec_For]
  refine seg_at ?_
  show Seg M A R Y n s₀ c ((eval iter env >>= fun v => foldedSetIterable iter env v >>= fun x => standAt iter.pos >>= fun _ => holding [x] (pyIter x) >>= fun it => runOwn (.forLoop target it body orelse env) env).wrap K J gd lv) fs s
  refine seg_bind_wrap (wpAny_mono h (fun x s₁ h₁ => ?_) fun _ _ x => x.elim)
  refine seg_bind_wrap (wpAny_of_eq (hs x) ?_)
  refine seg_bind_wrap (wpAny_standAt ?_)
  refine seg_bind_wrap (wpAny_holding (wpAny_mono h₁ (fun it s₂ h₂ => ?_) fun _ _ x => x.elim))
  exact seg_call h₂
end
section
variable {prog : Program} {w : World} {A : Around} {R : GenEnd} {Y : Protocol} {n : Nat} {s₀ : Shared} {fs : List Frame} {s : Shared} {env : Env}
theorem seg_forLoop {target : Expr} {it : Value} {body : List Stmt} {x : Str} {pos : Pos} (ht : target = .Name x pos)
    (h : wpAny (model prog w) (A.over (.forLoop target it body [] env) fs) (pyNext it) (fun r s₁ => match r with
        | none => ∀ c, Seg (model prog w) A R Y n s₀ c (leafOf (.ok .next)) fs s₁
        | some v => wpAny (model prog w) (A.over (.forLoop target it body [] env) fs) (storeName env x v) (fun _ s₂ => Seg (model prog w) A R Y n s₀ (.forLoop target it body [] env) ((execs body env).wrap (fun f => match f with
            | .next | .cont => .pure (.again (.forLoop target it body [] env))
            | .brk => .pure (.done .next)
            | .ret v => .pure (.done (.ret v))) (fun e => (do noteFrame e env; theTreesLotGoes e : Sem Unit).wrap (fun _ => .raise e) .raise id id) id id) fs s₂) NX s₁) NX s) :
    Seg (model prog w) A R Y n s₀ (.forLoop target it body [] env) ((model prog w).den (.forLoop target it body [] env)) fs s := by
  show Seg _ A R Y n s₀ _ ((forTurn target it body [] env).onRaise (fun x => do noteFrame x env; theTreesLotGoes x)) fs s
  unfold forTurn
  rw [Sem.onRaise_eq_wrap]
  subst ht
  refine seg_bind_wrap (wpAny_standAt ?_)
  refine seg_bind_wrap (wpAny_onRaise (wpAny_mono h (fun r s₁ h₁ => ?_) fun _ _ x => x.elim))
  cases r with
  | none =>
    refine seg_again (c' := .block [] env) rfl ?_
    exact h₁ (.block [] env)
  | some v =>
    refine seg_bind_wrap (wpAny_pure ?_)
    refine seg_bind_wrap (wpAny_assign_Name (wpAny_mono h₁ (fun _ s₂ h₂ => ?_) fun _ _ x => x.elim))
    rw [Sem.bind_eq_wrap', Sem.wrap_wrap]
    rw [Sem.wrap_congr (execs body env) _ _ (K' := fun f => match f with
            | .next | .cont => .pure (.again (.forLoop (.Name x pos) it body [] env))
            | .brk => .pure (.done .next)
            | .ret v => .pure (.done (.ret v))) (H' := (fun e => (do noteFrame e env; theTreesLotGoes e : Sem Unit).wrap (fun _ => .raise e) .raise id id))
        (fun f => by cases f <;> rfl)
        (fun e => by first | exact Sem.bind_eq_wrap _ _ | (show (do noteFrame e env; theTreesLotGoes e : Sem Unit).bind (fun _ => .raise e) = _; rw [Sem.bind_eq_wrap]))]
    exact h₂
end
end CG

/-! CG2: what a generator may trust and what it promises. -/
namespace CG
open PySem PySem.Spec PyProof.Rows L2 GenW Evl CE
/-! ### the tracked heap, its tuples and instances only -/
def onlyT (H : Hp) : Hp := fun b => match H b with
  | some (.tup xs) => some (.tup xs)
  | some (.ins C d f) => some (.ins C d f)
  | some (.own x) => match H x with
    | some (.ins _ _ _) => some (.own x)
    | _ => none
  | _ => none
def isT : HO → Prop
  | .tup _ => True
  | .ins _ _ _ => True
  | .own _ => True
  | _ => False
def TK (H : Hp) : Prop := ∀ b o, H b = some o → isT o
section
variable {P : Program} {w : World} {H H' Hm : Hp} {h h0 : Heap} {b : Addr}
theorem onlyT_ex : Ex (onlyT H) H := fun b o e => by
  unfold onlyT at e
  split at e
  · next q => rw [q]; exact e
  · next q => rw [q]; exact e
  · next x q =>
    rw [q]
    split at e
    · exact e
    · cases e
  · cases e
theorem onlyT_tk : TK (onlyT H) := fun b o e => by
  unfold onlyT at e
  split at e
  · cases e; trivial
  · cases e; trivial
  · split at e
    · cases e; trivial
    · cases e
  · cases e
theorem onlyT_tup {xs : List V} (e : H b = some (.tup xs)) : onlyT H b = some (.tup xs) := by unfold onlyT; rw [e]
theorem onlyT_ins {C d : Addr} {f : List (Str × V)} (e : H b = some (.ins C d f)) : onlyT H b = some (.ins C d f) := by unfold onlyT; rw [e]
theorem onlyT_own {x C d : Addr} {f : List (Str × V)} (e : H b = some (.own x)) (q : H x = some (.ins C d f)) : onlyT H b = some (.own x) := by unfold onlyT; rw [e]; simp only [q]
theorem onlyT_none (e : H b = none) : onlyT H b = none := by unfold onlyT; rw [e]
theorem ok_sub (k : TK Hm) (c : HOk P w Hm h0) (x : HOk P w H' h) (e : Ex Hm H') : HOk P w Hm h := fun a o q => by
  have y := x a o (e a o q)
  have z := c a o q
  have t := k a o q
  cases o with
  | tup xs => exact y
  | ins C dx fs => exact ⟨z.1, y.2⟩
  | own _ => exact y
  | _ => exact t.elim
theorem onlyT_ok (x : HOk P w H h) : HOk P w (onlyT H) h := fun a o q => by
  have y := x a o (onlyT_ex a o q)
  have t := onlyT_tk a o q
  cases o with
  | tup xs => exact y
  | ins C dx fs => exact ⟨onlyT_own y.1 (onlyT_ex a _ q), y.2⟩
  | own _ => exact y
  | _ => exact t.elim
/-- the whole, where all but the tuples and instances is kept -/
theorem ok_whole (x : HOk P w H h0) (y : HOk P w (onlyT H) h) (k : ∀ b o, H b ≠ none → onlyT H b = none → h0.get? b = some o → h.get? b = some o) : HOk P w H h := fun a o q => by
  by_cases hm : onlyT H a = none
  · refine (x a o q).stay (fun b u hb e => ?_) (fun _ z => z) fun _ _ z => z
    rcases hb with rfl | hb
    · exact k _ u (by rw [q]; exact nofun) hm e
    · refine k b u (by rw [hb]; exact nofun) ?_ e
      unfold onlyT
      rw [hb]
      show (match H a with | some (.ins _ _ _) => some (HO.own a) | _ => none) = none
      rw [q]
      cases o with
      | ins C dx fs => rw [onlyT_ins q] at hm; cases hm
      | _ => rfl
  · cases e : onlyT H a with
    | none => exact absurd e hm
    | some u =>
      have := onlyT_ex a u e
      rw [q] at this; cases this
      have z := y a o e
      have t := onlyT_tk a o e
      cases o with
      | tup xs => exact z
      | ins C dx fs => exact ⟨onlyT_ex _ _ z.1, z.2⟩
      | own _ => exact z
      | _ => exact t.elim
end
/-! ### who may do what -/
/-- what a sleeping generator asks of its consumer: D: his frames; g: its number -/
structure KO (D : List Addr) (g : Nat) (s s' : Shared) : Prop where
  os : s'.os = s.os
  bare : AllBare s'.gens
  gens : ∀ (i : Nat) (x : GenState), g < i → s.gens[i]? = some x → s'.gens[i]? = some x
  keep : ∀ b o, b ∉ D → s.heap.get? b = some o → s'.heap.get? b = some o
  there : ∀ b o, s.heap.get? b = some o → ∃ o', s'.heap.get? b = some o'
theorem KO.refl {D : List Addr} {g : Nat} {s : Shared} (h : AllBare s.gens) : KO D g s s := ⟨rfl, h, fun _ _ _ e => e, fun _ _ _ e => e, fun _ o e => ⟨o, e⟩⟩
theorem KO.trans {D : List Addr} {g : Nat} {s s1 s2 : Shared} (a : KO D g s s1) (b : KO D g s1 s2) : KO D g s s2 :=
  ⟨b.os.trans a.os, b.bare, fun i x h e => b.gens i x h (a.gens i x h e), fun c o h e => b.keep c o h (a.keep c o h e), fun c o e => let ⟨o1, e1⟩ := a.there c o e; b.there c o1 e1⟩
theorem KO.wider {D D' : List Addr} {g g' : Nat} {s s' : Shared} (a : KO D g s s') (hD : ∀ b ∈ D, b ∈ D') (hg : g ≤ g') : KO D' g' s s' :=
  ⟨a.os, a.bare, fun i x h e => a.gens i x (Nat.lt_of_le_of_lt hg h) e, fun c o h e => a.keep c o (fun z => h (hD c z)) e, a.there⟩
theorem KO.set {D : List Addr} {g g' : Nat} {s s' : Shared} {x : GenState} (a : KO D g s s') (hx : x.bare = true) (hg : g' ≤ g) : KO D g s (s'.setGen g' x) :=
  ⟨a.os, allBare_setGen a.bare hx, fun i y h e => by
    show (s'.gens.setIfInBounds g' x)[i]? = some y
    rw [Array.getElem?_setIfInBounds_ne (by omega)]
    exact a.gens i y h e, a.keep, a.there⟩
theorem KO.unset {D : List Addr} {g g' : Nat} {s s' : Shared} {x : GenState} (a : KO D g (s.setGen g' x) s') (hg : g' ≤ g) : KO D g s s' :=
  ⟨a.os, a.bare, fun i y h e => a.gens i y h (by
    show (s.gens.setIfInBounds g' x)[i]? = some y
    rw [Array.getElem?_setIfInBounds_ne (by omega)]
    exact e), a.keep, a.there⟩
/-- what a consumer may trust, from a wake to what comes out of it -/
structure Gua (P : Program) (w : World) (B : Heap) (D : List Addr) (Hm : Hp) (s₀ s : Shared) : Prop where
  os : s.os = s₀.os
  bare : AllBare s.gens
  keep : ∀ b o₀ o, B.get? b = some o₀ → Hm b = none → b ∉ D → s₀.heap.get? b = some o → s.heap.get? b = some o
  slot : ∀ b o₀ o, B.get? b = some o₀ → Hm b = none → b ∈ D → s₀.heap.get? b = some o → ∃ sl, s.heap.get? b = some { o with slots := sl }
  hok : HOk P w Hm s.heap
section
variable {P : Program} {w : World} {B : Heap} {D : List Addr} {Hm : Hp} {s₀ s s' : Shared}
theorem Gua.refl (hb : AllBare s.gens) (hk : HOk P w Hm s.heap) : Gua P w B D Hm s s := ⟨rfl, hb, fun _ _ _ _ _ _ e => e, fun b _ o _ _ _ e => ⟨o.slots, e⟩, hk⟩
/-- own steps: E: what is touched, unknown to the consumer -/
theorem Gua.step {E : List Addr} (G : Gua P w B D Hm s₀ s) (os : s'.os = s.os) (hb : AllBare s'.gens) (k : ∀ b o, b ∉ E → s.heap.get? b = some o → s'.heap.get? b = some o) (hE : ∀ b ∈ E, B.get? b = none ∧ Hm b = none) : Gua P w B D Hm s₀ s' := by
  have nE : ∀ b o₀, B.get? b = some o₀ → b ∉ E := fun b o₀ e z => by rw [(hE b z).1] at e; cases e
  refine ⟨os.trans G.os, hb, fun b o₀ o e1 e2 e3 e4 => k b o (nE b o₀ e1) (G.keep b o₀ o e1 e2 e3 e4), fun b o₀ o e1 e2 e3 e4 => ?_, fun a o q => ?_⟩
  · obtain ⟨sl, e⟩ := G.slot b o₀ o e1 e2 e3 e4
    exact ⟨sl, k b _ (nE b o₀ e1) e⟩
  · refine (G.hok a o q).stay (fun b u hb' e => k b u (fun z => ?_) e) (fun _ z => z) fun _ _ z => z
    have hn := (hE b z).2
    rcases hb' with rfl | hb'
    · rw [hn] at q; cases q
    · rw [hn] at hb'; cases hb'
/-- a child's wake -/
theorem Gua.child {Bc : Heap} {Dc : List Addr} {Hc : Hp} {t : GenState} (G : Gua P w B D Hm s₀ s) (C : Gua P w Bc Dc Hc s s') (hB : ∀ b o, B.get? b = some o → ∃ o', Bc.get? b = some o') (hH : ∀ b o, B.get? b = some o → Hm b = none → Hc b = none)
    (hD : ∀ b o, B.get? b = some o → (b ∈ Dc ↔ b ∈ D)) (k : TK Hm) (e : Ex Hm Hc) : Gua P w B D Hm s₀ s' := by
  refine ⟨C.os.trans G.os, C.bare, fun b o₀ o e1 e2 e3 e4 => ?_, fun b o₀ o e1 e2 e3 e4 => ?_, ok_sub k G.hok C.hok e⟩
  · obtain ⟨o', h'⟩ := hB b o₀ e1
    exact C.keep b o' o h' (hH b o₀ e1 e2) (fun z => e3 ((hD b o₀ e1).mp z)) (G.keep b o₀ o e1 e2 e3 e4)
  · obtain ⟨o', h'⟩ := hB b o₀ e1
    obtain ⟨sl, q⟩ := G.slot b o₀ o e1 e2 e3 e4
    obtain ⟨sl', q'⟩ := C.slot b o' _ h' (hH b o₀ e1 e2) ((hD b o₀ e1).mpr e3) q
    exact ⟨sl', q'⟩
end
/-! ### the protocol -/
/-- a generator: the heap of its call, its consumer's frames, what it knows, its object, its number, what it hands out -/
structure GD where
  B : Heap
  D : List Addr
  Hm : Hp
  a : Addr
  g : Nat
  its : List (List Nat)
/-- a tuple of these, laid since the call -/
def ItemAt (B h : Heap) (v : Value) (it : List Nat) : Prop := ∃ (p : Addr) (xs : Array Value), v = .ref p ∧ B.objs.size ≤ p ∧ IsTup h p xs ∧ Vals (eN it) xs.toList
def GYd (P : Program) (w : World) (G : GD) : Protocol := fun m s₀ v s kap =>
  (∃ pre it post, G.its = pre ++ it :: post ∧ post.length = m ∧ ItemAt G.B s.heap v it) ∧ Gua P w G.B G.D G.Hm s₀ s ∧ s.heap.IsGen G.a G.g ∧ ∀ s', KO G.D G.g s s' → kap (.send .none) s'
def GFd (P : Program) (w : World) (G : GD) : Nat → Shared → Shared → Prop := fun n s₀ s => n = 0 ∧ Gua P w G.B G.D G.Hm s₀ s
abbrev GRd (P : Program) (w : World) (G : GD) : GenEnd := fun n s₀ r s => ((r = .ok (.ret .none) ∨ r = .ok .next) ∧ GFd P w G n s₀ s) ∨ ∃ e, r = .error e ∧ (fun (_ : Value) (_ : Shared) => False) e s
/-- it sleeps, ready to hand out m more -/
def Rdy (P : Program) (w : World) (A : Around) (G : GD) (m : Nat) (s : Shared) : Prop :=
  s.heap.IsGen G.a G.g ∧ ∃ gs, s.gens[G.g]? = some gs ∧ ∀ s', KO G.D G.g s s' → gs.Goes (model P w) A (GRd P w G) (GYd P w G) m (.send .none) s'
theorem Rdy.move {P : Program} {w : World} {A : Around} {G : GD} {m g : Nat} {s s' : Shared} (r : Rdy P w A G m s) (k : KO G.D g s s') (hg : g < G.g) (ha : G.a ∉ G.D) : Rdy P w A G m s' := by
  obtain ⟨⟨o, nm, qn, ho, q⟩, gs, e, c⟩ := r
  exact ⟨⟨o, nm, qn, k.keep _ _ ha ho, q⟩, gs, k.gens _ _ hg e, fun s2 k2 => c s2 ((k.wider (fun _ z => z) (Nat.le_of_lt hg)).trans k2)⟩
/-- it may be woken now -/
def RdyN (P : Program) (w : World) (A : Around) (G : GD) (m : Nat) (s : Shared) : Prop :=
  s.heap.IsGen G.a G.g ∧ ∃ gs, s.gens[G.g]? = some gs ∧ gs.Goes (model P w) A (GRd P w G) (GYd P w G) m (.send .none) (s.setGen G.g .running)
theorem Rdy.now {P : Program} {w : World} {A : Around} {G : GD} {m : Nat} {s : Shared} (r : Rdy P w A G m s) (hb : AllBare s.gens) : RdyN P w A G m s := by
  obtain ⟨hg, gs, e, c⟩ := r
  exact ⟨hg, gs, e, c _ ((KO.refl hb).set rfl (Nat.le_refl _))⟩
section
variable {P : Program} {w : World} {A : Around} {G : GD} {s : Shared} {m : Nat} {Q : Option Value → Shared → Prop} {E : Value → Shared → Prop}
/-- its next item -/
theorem rdy_next (hh : A.handled = none) (hl : s.heap.NoLimit) (hr : A.depth < recursionLimit) (hb : AllBare s.gens) (r : RdyN P w A.in1 G m s)
    (hY : ∀ v s₁ pre it post, G.its = pre ++ it :: post → post.length + 1 = m → ItemAt G.B s₁.heap v it → Gua P w G.B G.D G.Hm s s₁ → Rdy P w A.in1 G post.length s₁ → Q (some v) s₁)
    (hP : ∀ s₁, m = 0 → Gua P w G.B G.D G.Hm s s₁ → Q none s₁) : wpAny (model P w) A (pyNext (.ref G.a)) Q E s := by
  obtain ⟨hg, gs, e, c⟩ := r
  have hgl : G.g < s.gens.size := (Array.getElem?_eq_some_iff.mp e).1
  have g0 : ∀ s₁, Gua P w G.B G.D G.Hm (s.setGen G.g .running) s₁ → ∀ (x : GenState) (h' : Heap), x.bare = true → (∀ b o, s₁.heap.get? b = some o → h'.get? b = some o) → Gua P w G.B G.D G.Hm s { s₁.setGen G.g x with heap := h' } := fun s₁ z x h' hx hk =>
    Gua.step (E := []) ⟨z.os, z.bare, z.keep, z.slot, z.hok⟩ rfl (allBare_setGen z.bare hx) (fun b o _ q => hk b o q) fun b q => by cases q
  refine wpAny_gsz (n := G.g + 1) hgl (next_genG (F := GFd P w G) (Er := fun _ _ => False) (Y := GYd P w G) (n := m) hh hl hr hg e c (fun v s₁ gs' hbare hv => ?_) (fun s₁ hp h' hk => ?_) fun e s₁ he => he.elim)
  · intro hsz
    obtain ⟨⟨pre, it, post, e1, e2, e3⟩, hG, hg1, hk⟩ := hv
    have hsz1 : G.g < s₁.gens.size := by
      have q : (s₁.setGen G.g gs').gens.size = s₁.gens.size := setGen_size _ _ _
      have hsz' : G.g + 1 ≤ (s₁.setGen G.g gs').gens.size := hsz
      omega
    cases m with
    | zero => exact (hk s₁ (KO.refl hG.bare)).elim
    | succ m =>
      have e2 : post.length = m := e2
      refine hY v (s₁.setGen G.g gs') pre it post e1 (by omega) e3 (g0 s₁ hG gs' _ hbare fun _ _ q => q) ⟨hg1, gs', setGen_at hsz1, fun s' k => ?_⟩
      rw [e2]
      exact hk s' (k.unset (Nat.le_refl _))
  · intro _
    exact hP _ hp.1 (g0 s₁ hp.2 .finished h' rfl hk)
end
end CG

/-! CG3: the two loops of deals, the state as it is. -/
namespace CG
open PySem PySem.Spec PyProof.Rows L2 GenW Evl CE
/-- where a parent generator stands: its frame, its child, the tuple that it walks -/
structure St (base : Heap) (env : Env) (G Gc : GD) (t : Addr) (last : List Nat) : Prop where
  kind : env.scope.kind = .function
  co : env.scope.isCoroutine = false
  inter : interactive env = false
  vLast : env.kindOf "last" = some .local
  vDealt : env.kindOf "dealt" = some .local
  vIndex : env.kindOf "index" = some .local
  lim : base.NoLimit
  hD : Gc.D = env.locals :: G.D
  nL : env.locals ∉ G.D
  na : G.a ∉ G.D
  aL : G.a ≠ env.locals
  baseD : ∀ b o, base.get? b = some o → b ∉ Gc.D
  hcD : ∀ b ∈ Gc.D, Gc.Hm b = none
  dB : ∀ b ∈ Gc.D, ∃ o, Gc.B.get? b = some o
  hca : Gc.Hm G.a = none
  hcb : ∀ b o, base.get? b = some o → Gc.Hm b = none
  LB : env.locals = G.B.objs.size
  mL : G.Hm env.locals = none
  inB : ∀ b o, G.B.get? b = some o → ∃ o', Gc.B.get? b = some o'
  mB : ∀ b o, G.B.get? b = some o → G.Hm b = none → Gc.Hm b = none
  ex : Ex G.Hm Gc.Hm
  tk : TK G.Hm
  ctk : TK Gc.Hm
  hlast : Gc.Hm t = some (.tup (eN last))
  hg : G.g < Gc.g
  ca : Gc.a ∉ Gc.D
  its : G.its = Gc.its.flatMap fun d => (last.filter fun j => !d.contains j).map fun j => d ++ [j]
  small : ∀ d ∈ Gc.its, d.length ≤ 1000
  aB : ∃ o, Gc.B.get? G.a = some o
  bB : ∀ b o, base.get? b = some o → ∃ o', Gc.B.get? b = some o'
/-- what it holds while it runs behind its child's call -/
structure PI (P : Program) (w : World) (base : Heap) (env : Env) (G Gc : GD) (t : Addr) (s : Shared) : Prop where
  bare : AllBare s.gens
  ns : ∃ m, s.heap.Ns env.locals m ∧ m "last" = some (.ref t)
  gen : s.heap.IsGen G.a G.g
  bs : ∀ b o, base.get? b = some o → s.heap.get? b = some o
  hok : HOk P w Gc.Hm s.heap
  eb : ∀ b o, Gc.B.get? b = some o → ∃ o', s.heap.get? b = some o'
section
variable {P : Program} {w : World} {base : Heap} {env : Env} {G Gc : GD} {t : Addr} {last : List Nat} {s s' : Shared}
theorem PI.mv {E : List Addr} (S : St base env G Gc t last) (I : PI P w base env G Gc t s) (hb : AllBare s'.gens) (k : ∀ b o, b ∉ E → s.heap.get? b = some o → s'.heap.get? b = some o) (th : ∀ b o, (∃ u, Gc.B.get? b = some u) → s.heap.get? b = some o → ∃ o', s'.heap.get? b = some o')
    (hE : ∀ b ∈ E, b ≠ G.a ∧ base.get? b = none ∧ Gc.Hm b = none) (ns : ∃ m, s'.heap.Ns env.locals m ∧ m "last" = some (.ref t)) : PI P w base env G Gc t s' := by
  refine ⟨hb, ns, ?_, fun b o e => k b o (fun z => ?_) (I.bs b o e), fun a o q => ?_, fun b o e => ?_⟩
  · obtain ⟨o, nm, qn, ho, r⟩ := I.gen
    exact ⟨o, nm, qn, k _ _ (fun z => (hE _ z).1 rfl) ho, r⟩
  · rw [(hE b z).2.1] at e; cases e
  · refine (I.hok a o q).stay (fun b u hb' e => k b u (fun z => ?_) e) (fun _ z => z) fun _ _ z => z
    have hn := (hE b z).2.2
    rcases hb' with rfl | hb'
    · rw [hn] at q; cases q
    · rw [hn] at hb'; cases hb'
  · obtain ⟨o', e'⟩ := I.eb b o e
    exact th b o' ⟨o, e⟩ e'
theorem St.bL (S : St base env G Gc t last) : G.B.get? env.locals = none := by
  cases q : G.B.get? env.locals with
  | none => rfl
  | some u => exact (Nat.lt_irrefl _ (by have := Heap.lt_size q; rw [S.LB] at this; exact this)).elim
theorem St.D_ok (S : St base env G Gc t last) : ∀ b ∈ Gc.D, b ≠ G.a ∧ base.get? b = none ∧ Gc.Hm b = none := fun b hb => by
  refine ⟨fun z => ?_, ?_, S.hcD b hb⟩
  · subst z
    rw [S.hD] at hb
    rcases List.mem_cons.mp hb with z | z
    · exact S.aL z
    · exact S.na z
  · cases e : base.get? b with
    | none => rfl
    | some o => exact absurd hb (S.baseD b o e)
theorem St.GD_sub (S : St base env G Gc t last) : ∀ b ∈ G.D, b ∈ Gc.D := fun b hb => by rw [S.hD]; exact List.mem_cons_of_mem _ hb
theorem St.L_in (S : St base env G Gc t last) : env.locals ∈ Gc.D := by rw [S.hD]; exact List.mem_cons_self
theorem ns_keep {h h' : Heap} {L : Addr} {m : Str → Option Value} (x : h.Ns L m) (k : ∀ o, h.get? L = some o → h'.get? L = some o) : h'.Ns L m := let ⟨o, es, ep, ho, r⟩ := x; ⟨o, es, ep, k o ho, r⟩
/-- the consumer's turn -/
theorem PI.cons (S : St base env G Gc t last) (I : PI P w base env G Gc t s) (k : KO G.D G.g s s') : PI P w base env G Gc t s' := by
  refine I.mv (E := G.D) S k.bare k.keep (fun b o _ e => k.there b o e) (fun b hb => S.D_ok b (S.GD_sub b hb)) ?_
  obtain ⟨m, hn, hl⟩ := I.ns
  exact ⟨m, ns_keep hn fun o e => k.keep _ _ S.nL e, hl⟩
theorem PI.mok (S : St base env G Gc t last) {h0 : Heap} (I : PI P w base env G Gc t s) (c : HOk P w G.Hm h0) : HOk P w G.Hm s.heap := ok_sub S.tk c I.hok S.ex
theorem PI.lim (S : St base env G Gc t last) (I : PI P w base env G Gc t s) : s.heap.NoLimit := S.lim.keeps I.bs
/-- the iterator over last, dealt's tuple -/
structure ItF (base : Heap) (G Gc : GD) (t p : Addr) (sy : Shared) (it : Addr) : Prop where
  itD : it ∉ Gc.D
  itB : Gc.B.get? it = none
  itH : Gc.Hm it = none
  itb : base.get? it = none
  ita : it ≠ G.a
  itsy : sy.heap.get? it = none
  itt : it ≠ t
  itp : it ≠ p
  pD : p ∉ Gc.D
structure IN (P : Program) (w : World) (base : Heap) (env : Env) (G Gc : GD) (t : Addr) (sy : Shared) (d : List Nat) (p it : Addr) (xs : Array Value) (i : Nat) (s : Shared) : Prop where
  pi : PI P w base env G Gc t s
  ko : KO Gc.D G.g sy s
  ns : ∃ m, s.heap.Ns env.locals m ∧ m "last" = some (.ref t) ∧ m "dealt" = some (.ref p)
  dt : IsTup s.heap p xs
  iter : IsTupIter s.heap it t i
theorem isTup_keep {h h' : Heap} {p : Addr} {xs : Array Value} (x : IsTup h p xs) (k : ∀ o, h.get? p = some o → h'.get? p = some o) : IsTup h' p xs := let ⟨o, ho, r⟩ := x; ⟨o, k o ho, r⟩
section
variable {sy : Shared} {d : List Nat} {p it : Addr} {xs : Array Value} {i j : Nat}
theorem IN.out {E : List Addr} (S : St base env G Gc t last) (F : ItF base G Gc t p sy it) (I : IN P w base env G Gc t sy d p it xs i s) (os : s'.os = s.os) (hb : AllBare s'.gens) (hg : ∀ (i : Nat) (x : GenState), G.g < i → s.gens[i]? = some x → s'.gens[i]? = some x)
    (k : ∀ b o, b ∉ E → s.heap.get? b = some o → s'.heap.get? b = some o) (th : ∀ b o, b ≠ it → s.heap.get? b = some o → ∃ o', s'.heap.get? b = some o')
    (hE : ∀ b ∈ E, b ∈ Gc.D ∨ b = it) (ns : ∃ m, s'.heap.Ns env.locals m ∧ m "last" = some (.ref t)) : PI P w base env G Gc t s' ∧ KO Gc.D G.g sy s' := by
  refine ⟨I.pi.mv S hb k (fun b o h e => th b o (fun z => ?_) e) (fun b hb => ?_) ns, ⟨os.trans I.ko.os, hb, fun i x h e => hg i x h (I.ko.gens i x h e), fun b o hbD e => k b o (fun z => ?_) (I.ko.keep b o hbD e), fun b o e => ?_⟩⟩
  · obtain ⟨u, hu⟩ := h
    rw [z, F.itB] at hu; cases hu
  · rcases hE b hb with z | rfl
    · exact S.D_ok b z
    · exact ⟨F.ita, F.itb, F.itH⟩
  · rcases hE b z with z | rfl
    · exact hbD z
    · rw [F.itsy] at e; cases e
  · obtain ⟨o1, e1⟩ := I.ko.there b o e
    exact th b o1 (fun z => by rw [z, F.itsy] at e; cases e) e1
theorem IN.mv {E : List Addr} (S : St base env G Gc t last) (F : ItF base G Gc t p sy it) (I : IN P w base env G Gc t sy d p it xs i s) (os : s'.os = s.os) (hb : AllBare s'.gens) (hg : ∀ (i : Nat) (x : GenState), G.g < i → s.gens[i]? = some x → s'.gens[i]? = some x)
    (k : ∀ b o, b ∉ E → s.heap.get? b = some o → s'.heap.get? b = some o) (th : ∀ b o, b ≠ it → s.heap.get? b = some o → ∃ o', s'.heap.get? b = some o')
    (hE : ∀ b ∈ E, b ∈ Gc.D ∨ b = it) (ns : ∃ m, s'.heap.Ns env.locals m ∧ m "last" = some (.ref t) ∧ m "dealt" = some (.ref p)) (iter : IsTupIter s'.heap it t j) : IN P w base env G Gc t sy d p it xs j s' := by
  obtain ⟨h1, h2⟩ := I.out S F os hb hg k th hE (let ⟨m, h1, h2, _⟩ := ns; ⟨m, h1, h2⟩)
  refine ⟨h1, h2, ns, isTup_keep I.dt fun o e => k p o (fun z => ?_) e, iter⟩
  rcases hE p z with z | z
  · exact F.pD z
  · exact F.itp z.symm
end
end
end CG

/-! CG4: the inner loop of deals. -/
namespace CG
open PySem PySem.Spec PyProof.Rows L2 GenW Evl CE
def cand (d ls : List Nat) : List (List Nat) := (ls.filter fun j => !d.contains j).map fun j => d ++ [j]
theorem gua_own {P : Program} {w : World} {base : Heap} {env : Env} {G Gc : GD} {t : Addr} {last : List Nat} {s₀ s s' : Shared} {E : List Addr} (S : St base env G Gc t last) (U : Gua P w G.B G.D G.Hm s₀ s) (os : s'.os = s.os) (hb : AllBare s'.gens)
    (k : ∀ b o, b ∉ E → s.heap.get? b = some o → s'.heap.get? b = some o) (hE : ∀ b ∈ E, b = env.locals ∨ (Gc.B.get? b = none ∧ Gc.Hm b = none)) : Gua P w G.B G.D G.Hm s₀ s' :=
  U.step os hb k fun b hb' => by
    rcases hE b hb' with rfl | ⟨h1, h2⟩
    · exact ⟨S.bL, S.mL⟩
    · refine ⟨?_, ?_⟩
      · cases e : G.B.get? b with
        | none => rfl
        | some o =>
          obtain ⟨o', e'⟩ := S.inB b o e
          rw [h1] at e'; cases e'
      · cases e : G.Hm b with
        | none => rfl
        | some o => rw [S.ex b o e] at h2; cases h2
section
variable {P : Program} {w : World} {base : Heap} {env : Env} {G Gc : GD} {t : Addr} {last : List Nat} {A : Around} {fs : List Frame} {sy : Shared} {d : List Nat} {p it : Addr} {xs : Array Value} {rest : Nat}
  {q1 q2 q3 q4 q5 q6 q7 q8 q9 q10 q11 : Pos} {kk : Nat}
theorem eqv_contains (d : List Nat) (x : Nat) : ((eN d).any fun y => eqV y (nV x)) = d.contains x := by
  induction d with
  | nil => rfl
  | cons a d ih =>
    have e : eqV (nV a) (nV x) = (x == a) := by
      show ((a : Int) == (x : Int)) = (x == a)
      rw [Bool.eq_iff_iff, beq_iff_eq, beq_iff_eq]
      omega
    show (eqV (nV a) (nV x) || (eN d).any fun y => eqV y (nV x)) = _
    rw [ih, e, List.contains_cons]
theorem flat_eN (d : List Nat) : (eN d).all flatV = true := by
  rw [List.all_eq_true]
  intro v hv
  obtain ⟨a, _, rfl⟩ := List.mem_map.mp hv
  rfl
/-- for index in last: if index not in dealt: yield dealt + (index,) -/
theorem inner (S : St base env G Gc t last) (F : ItF base G Gc t p sy it) (hd : Vals (eN d) xs.toList) (hdl : d.length ≤ 1000)
    (hA : A.handled = none)
    (Ar : A.over (.forLoop (.Name "index" q1) (.ref it) [.If (.Compare (.Name "index" q2) [.NotIn] [.Name "dealt" q3] q4) [.Expr (.Yield (some (.BinOp (.Name "dealt" q5) .Add (.Tuple [.Name "index" q6] kk q7) q8)) q9) q10] [] q11] [] env) fs = A.deeper env)
    (hsp : splitAtGen fs = none) (hfg : fs.any Frame.guarded = false)
    (hend : ∀ s₀ s, PI P w base env G Gc t s → Gua P w G.B G.D G.Hm s₀ s → KO Gc.D G.g sy s → ∀ c, Seg (model P w) A (GRd P w G) (GYd P w G) rest s₀ c (leafOf (.ok .next)) fs s) :
    ∀ (ls : List Nat) (i n : Nat) (s₀ s : Shared), last.drop i = ls → n = (cand d ls).length + rest → (∃ pre post, G.its = pre ++ cand d ls ++ post ∧ post.length = rest) → IN P w base env G Gc t sy d p it xs i s → Gua P w G.B G.D G.Hm s₀ s →
      Seg (model P w) A (GRd P w G) (GYd P w G) n s₀ (.forLoop (.Name "index" q1) (.ref it) [.If (.Compare (.Name "index" q2) [.NotIn] [.Name "dealt" q3] q4) [.Expr (.Yield (some (.BinOp (.Name "dealt" q5) .Add (.Tuple [.Name "index" q6] kk q7) q8)) q9) q10] [] q11] [] env)
        ((model P w).den (.forLoop (.Name "index" q1) (.ref it) [.If (.Compare (.Name "index" q2) [.NotIn] [.Name "dealt" q3] q4) [.Expr (.Yield (some (.BinOp (.Name "dealt" q5) .Add (.Tuple [.Name "index" q6] kk q7) q8)) q9) q10] [] q11] [] env)) fs s := by
  intro ls
  induction ls with
  | nil =>
    intro i n s₀ s hls hn hits I U
    have hn : n = rest := by simpa [cand] using hn
    subst hn
    refine seg_forLoop rfl ?_
    rw [Ar]
    obtain ⟨_, its, r, ht⟩ := I.pi.hok t _ S.hlast
    have hlen : its.length = last.length := by rw [← r.length, List.length_map]
    have hi : last.length ≤ i := List.drop_eq_nil_iff.mp hls
    refine next_tuple_end (items := its.toArray) hA I.iter ht (by simp; omega) fun h' hk => ?_
    have hkeep : ∀ b o, b ∉ [it] → s.heap.get? b = some o → h'.get? b = some o := fun b o hb e => hk b o (by simpa using hb) e
    obtain ⟨m, hm, hl, _⟩ := I.ns
    obtain ⟨g1, g2⟩ := I.out (s' := { s with heap := h' }) (E := [it]) S F rfl I.pi.bare (fun _ _ _ e => e) hkeep (fun b o hb e => ⟨o, hk b o hb e⟩) (fun b hb => .inr (by simpa using hb)) ⟨m, ns_keep hm fun o e => hk _ o (fun z => F.itD (by rw [← z]; exact S.L_in)) e, hl⟩
    exact hend s₀ _ g1 (gua_own (E := [it]) S U rfl I.pi.bare hkeep fun b hb => .inr (by rw [List.mem_singleton.mp hb]; exact ⟨F.itB, F.itH⟩)) g2
  | cons x ls ih =>
    intro i n s₀ s hls hn hits I U
    have hx : last[i]? = some x := by
      have := congrArg (·[0]?) hls
      simpa using this
    have hls' : last.drop (i + 1) = ls := by rw [← List.drop_drop, hls]; rfl
    refine seg_forLoop rfl ?_
    rw [Ar]
    obtain ⟨_, its, r, ht⟩ := I.pi.hok t _ S.hlast
    obtain ⟨u, hu, ru⟩ := r.get (x := nV x) (i := i) (by rw [List.getElem?_map, hx]; rfl)
    refine next_tuple_item (items := its.toArray) I.iter ht (x := u) (by simpa using hu) fun h' hit' hsb => ?_
    have hkeep : ∀ b o, b ∉ [it] → s.heap.get? b = some o → h'.get? b = some o := fun b o hb e => hsb.extBut b o (by simpa using hb) e
    obtain ⟨m, hm, hl, hdl'⟩ := I.ns
    have hLit : env.locals ≠ it := fun z => F.itD (by rw [← z]; exact S.L_in)
    have hm' : h'.Ns env.locals m := hm.sameBut hsb hLit
    have I1 : IN P w base env G Gc t sy d p it xs (i + 1) { s with heap := h' } := I.mv (E := [it]) S F rfl I.pi.bare (fun _ _ _ e => e) hkeep (fun b o hb e => ⟨o, hsb.extBut b o hb e⟩) (fun b hb => .inr (by simpa using hb)) ⟨m, hm', hl, hdl'⟩ hit'
    have U1 : Gua P w G.B G.D G.Hm s₀ { s with heap := h' } := gua_own (E := [it]) S U rfl I.pi.bare hkeep fun b hb => .inr (by rw [List.mem_singleton.mp hb]; exact ⟨F.itB, F.itH⟩)
    clear U I hm hsb hit' ht
    refine wpAny_storeName_local S.vIndex hm' (fun h2 hn2 hs2 => ?_) (by rw [S.kind]; rfl)
    have hit2 : IsTupIter h2 it t (i + 1) := by
      obtain ⟨o, ho, q⟩ := I1.iter
      exact ⟨o, hs2.extBut _ o (Ne.symm hLit) ho, q⟩
    have hkeep2 : ∀ b o, b ∉ [env.locals] → h'.get? b = some o → h2.get? b = some o := fun b o hb e => hs2.extBut b o (by simpa using hb) e
    have th2 : ∀ b o, h'.get? b = some o → ∃ o', h2.get? b = some o' := fun b o e => by
      by_cases hb : b = env.locals
      · obtain ⟨o', _, _, ho', _⟩ := hn2
        rw [hb]; exact ⟨o', ho'⟩
      · exact ⟨o, hs2.extBut b o hb e⟩
    have hbare : AllBare s.gens := I1.pi.bare
    have I2 : IN P w base env G Gc t sy d p it xs (i + 1) { s with heap := h2, toks := s.toks + 1 } := I1.mv (E := [env.locals]) S F rfl hbare (fun _ _ _ e => e) hkeep2 (fun b o _ e => th2 b o e) (fun b hb => .inl (by rw [List.mem_singleton.mp hb]; exact S.L_in))
      ⟨_, hn2, by rw [if_neg (by decide)]; exact hl, by rw [if_neg (by decide)]; exact hdl'⟩ hit2
    have U2 : Gua P w G.B G.D G.Hm s₀ { s with heap := h2, toks := s.toks + 1 } := gua_own (E := [env.locals]) S U1 rfl hbare hkeep2 fun b hb => .inl (by simpa using hb)
    clear U1 I1 hit2 hkeep2 th2 hm' hs2
    have hmi : (fun y => if y = ("index" : Str) then some u else m y) "index" = some u := if_pos rfl
    have hmd : (fun y => if y = ("index" : Str) then some u else m y) "dealt" = some (.ref p) := by
      show (if ("dealt" : Str) = "index" then some u else m "dealt") = _
      rw [if_neg (by decide)]; exact hdl'
    generalize hs2' : ({ s with heap := h2, toks := s.toks + 1 } : Shared) = s2 at I2 U2
    have hn2' : s2.heap.Ns env.locals (fun y => if y = ("index" : Str) then some u else m y) := by rw [← hs2']; exact hn2
    generalize (fun y => if y = ("index" : Str) then some u else m y) = m2 at hmi hmd hn2'
    clear hs2'
    refine seg_execs_cons (seg_If ?_)
    rw [Ar]
    refine wpAny_isTrue_Compare1 (wpAny_Name (wpAny_loadName_local S.kind S.vIndex hn2' hmi ?_) (by decide)) 
    refine wpAny_Name (wpAny_loadName_local S.kind S.vDealt hn2' hmd ?_) (by decide)
    refine SeqAt.notIn_tupleAt (eqU (nV x)) I2.dt (fun y hy => mem_eqAt ru rfl hd (flat_eN d) y (by simpa using hy)) ?_
    refine wpAny_truthy_bool ?_
    have ev : xs.any (eqU (nV x)) = d.contains x := by
      rw [← eqv_contains, ← any_eqU hd (flat_eN d), ← Array.any_toList]
    rw [ev]
    cases hc : d.contains x with
    | true =>
      have ec : cand d (x :: ls) = cand d ls := by unfold cand; rw [List.filter_cons, hc]; rfl
      rw [ec] at hn hits
      refine seg_execs_nil ?_
      refine seg_execs_nil ?_
      exact seg_again rfl (ih (i + 1) n s₀ s2 hls' hn hits I2 U2)
    | false =>
      have ec : cand d (x :: ls) = (d ++ [x]) :: cand d ls := by unfold cand; rw [List.filter_cons, hc]; rfl
      rw [ec] at hn hits
      obtain ⟨n, rfl⟩ : ∃ k, n = k + 1 := ⟨n - 1, by rw [List.length_cons] at hn; omega⟩
      have hlen : (cand d ls).length + rest = n := by
        have := hn
        rw [List.length_cons] at this
        omega
      refine seg_execs_cons ?_
      have fin : ∀ (r : Addr) (h4 : Heap) (ys : Array Value), s2.heap.objs.size ≤ r → IsTup h4 r ys → Vals (eN (d ++ [x])) ys.toList → (∀ b o, s2.heap.get? b = some o → h4.get? b = some o) →
          ∀ kap : Resume → Shared → Prop, (∀ s'', Seg (model P w) A (GRd P w G) (GYd P w G) n s'' (.forLoop (.Name "index" q1) (.ref it) [.If (.Compare (.Name "index" q2) [.NotIn] [.Name "dealt" q3] q4) [.Expr (.Yield (some (.BinOp (.Name "dealt" q5) .Add (.Tuple [.Name "index" q6] kk q7) q8)) q9) q10] [] q11] [] env)
            (.pure (.again (.forLoop (.Name "index" q1) (.ref it) [.If (.Compare (.Name "index" q2) [.NotIn] [.Name "dealt" q3] q4) [.Expr (.Yield (some (.BinOp (.Name "dealt" q5) .Add (.Tuple [.Name "index" q6] kk q7) q8)) q9) q10] [] q11] [] env))) fs s'' → kap (.send .none) s'') →
            GYd P w G n s₀ (.ref r) { s2 with heap := h4 } kap := fun r h4 ys hr hy hv hk kap hkap => by
        obtain ⟨pre, post, e1, e2⟩ := hits
        have I4 : IN P w base env G Gc t sy d p it xs (i + 1) { s2 with heap := h4 } := I2.mv (E := []) S F rfl I2.pi.bare (fun _ _ _ e => e) (fun b o _ e => hk b o e) (fun b o _ e => ⟨o, hk b o e⟩) (fun b hb => by cases hb)
          (let ⟨m, z1, z2⟩ := I2.ns; ⟨m, ns_keep z1 fun o e => hk _ o e, z2⟩) (let ⟨o, ho, q⟩ := I2.iter; ⟨o, hk _ o ho, q⟩)
        have U4 : Gua P w G.B G.D G.Hm s₀ { s2 with heap := h4 } := gua_own (E := []) S U2 rfl I2.pi.bare (fun b o _ e => hk b o e) fun b hb => by cases hb
        refine ⟨⟨pre, d ++ [x], cand d ls ++ post, by rw [e1]; simp, by rw [List.length_append, e2]; exact hlen, r, ys, rfl, ?_, hy, hv⟩, U4, I4.pi.gen, fun s5 k5 => hkap s5 ?_⟩
        · obtain ⟨o1, z1⟩ := S.dB _ S.L_in
          obtain ⟨o2, z2⟩ := I2.pi.eb _ o1 z1
          have := Heap.lt_size z2
          rw [S.LB] at this
          exact Nat.le_of_lt (Nat.lt_of_lt_of_le this hr)
        have g5 : AllBare s5.gens := k5.bare
        have I5 : IN P w base env G Gc t sy d p it xs (i + 1) s5 := I4.mv (E := G.D) S F k5.os g5 k5.gens k5.keep (fun b o _ e => k5.there b o e) (fun b hb => .inl (S.GD_sub b hb))
          (let ⟨m, z1, z2⟩ := I4.ns; ⟨m, ns_keep z1 fun o e => k5.keep _ o S.nL e, z2⟩) (let ⟨o, ho, q⟩ := I4.iter; ⟨o, k5.keep _ o (fun z => F.itD (S.GD_sub _ z)) ho, q⟩)
        refine seg_again rfl (ih (i + 1) n s5 s5 hls' hlen.symm ⟨pre ++ [d ++ [x]], post, by rw [e1]; simp, e2⟩ I5 (Gua.refl g5 (I5.pi.mok S U2.hok)))
      refine seg_Expr_Yield hsp rfl hfg ?_ S.co S.inter
      rw [Ar]
      refine wpAny_BinOp (wpAny_Name (wpAny_loadName_local S.kind S.vDealt hn2' hmd ?_) (by decide))
      refine wpAny_Tuple (Calls.spliced_cons (wpAny_Name (wpAny_loadName_local S.kind S.vIndex hn2' hmi (Calls.spliced_nil ⟨by show 1 ≤ sizeLine; decide, ?_⟩)) (by decide)))
      have kp : ∀ b o, s2.heap.get? b = some o → (s2.heap.push { cls := .type "tuple", data := .seq [u].toArray }).get? b = some o := fun b o e => Heap.get?_push_of_some _ e
      have tq : IsTup (s2.heap.push { cls := .type "tuple", data := .seq [u].toArray }) s2.heap.objs.size [u].toArray := IsTup.new _ _
      have tp : IsTup (s2.heap.push { cls := .type "tuple", data := .seq [u].toArray }) p xs.toList.toArray := by
        have : xs.toList.toArray = xs := by simp
        rw [this]
        exact isTup_keep I2.dt fun o e => kp p o e
      have vu : Vals (eN [x]) [u] := .cons ru .nil
      by_cases hd0 : d = []
      · subst hd0
        have x0 : xs.toList = [] := hd.nil_iff.mpr rfl
        rw [x0] at tp
        refine cat_tup0 tp tq fun kap hkap => ?_
        exact fin _ _ _ (Nat.le_refl _) tq (by simpa using vu) kp kap fun s'' z => hkap .none s'' z
      · refine HT.cat_tup tp tq (fun z => hd0 ?_) (fun z => by cases z) (fun _ kap hkap => ?_) ?_
        · have := hd.length
          rw [z, List.length_map] at this
          exact List.length_eq_zero_iff.mp this
        · refine fin _ _ (xs.toList ++ [u]).toArray ?_ (IsTup.new _ _) ?_ (fun b o e => Heap.get?_push_of_some _ (kp b o e)) kap fun s'' z => hkap .none s'' z
          · rw [Heap.size_push]; omega
          · have : eN (d ++ [x]) = eN d ++ eN [x] := List.map_append
            rw [this]
            simpa using hd.append vu
        · have := hd.length
          rw [List.length_map] at this
          rw [← this]
          show d.length + 1 ≤ sizeLine
          exact Nat.le_trans (Nat.add_le_add_right hdl 1) (by decide)
end
end CG

/-! CG5: the outer loop of deals. -/
namespace CG
open PySem PySem.Spec PyProof.Rows L2 GenW Evl CE
theorem exists_of_ok {P : Program} {w : World} {H : Hp} {h : Heap} {b : Addr} {u : HO} (k : TK H) (x : HOk P w H h) (e : H b = some u) : ∃ o, h.get? b = some o := by
  have y := x b u e
  have z := k b u e
  cases u with
  | tup xs => obtain ⟨_, _, _, o, ho, _⟩ := y; exact ⟨o, ho⟩
  | ins C d f => obtain ⟨_, _, _, ho, _⟩ := y; exact ⟨_, ho⟩
  | own _ => exact y
  | _ => exact z.elim
section
variable {P : Program} {w : World} {base : Heap} {env : Env} {G Gc : GD} {t : Addr} {last : List Nat} {s₀ s s' : Shared}
/-- a child's wake -/
theorem PI.child (S : St base env G Gc t last) (I : PI P w base env G Gc t s) (C : Gua P w Gc.B Gc.D Gc.Hm s s') : PI P w base env G Gc t s' := by
  have ex1 : ∀ b o, Gc.B.get? b = some o → ∃ o', s'.heap.get? b = some o' := fun b o e => by
    obtain ⟨o1, e1⟩ := I.eb b o e
    cases hm : Gc.Hm b with
    | some u => exact exists_of_ok S.ctk C.hok hm
    | none =>
      by_cases hb : b ∈ Gc.D
      · obtain ⟨sl, q⟩ := C.slot b o o1 e hm hb e1
        exact ⟨_, q⟩
      · exact ⟨o1, C.keep b o o1 e hm hb e1⟩
  refine ⟨C.bare, ?_, ?_, fun b o e => ?_, C.hok, ex1⟩
  · obtain ⟨m, ⟨o, es, ep, ho, hd, r⟩, hl⟩ := I.ns
    obtain ⟨oL, eL⟩ := S.dB _ S.L_in
    obtain ⟨sl, q⟩ := C.slot _ oL o eL (S.hcD _ S.L_in) S.L_in ho
    exact ⟨m, ⟨_, es, ep, q, hd, r⟩, hl⟩
  · obtain ⟨o, nm, qn, ho, r⟩ := I.gen
    obtain ⟨oa, ea⟩ := S.aB
    exact ⟨o, nm, qn, C.keep _ oa o ea S.hca (fun z => (S.D_ok _ z).1 rfl) ho, r⟩
  · obtain ⟨o', e'⟩ := S.bB b o e
    exact C.keep b o' o e' (S.hcb b o e) (S.baseD b o e) (I.bs b o e)
theorem gua_child (S : St base env G Gc t last) (U : Gua P w G.B G.D G.Hm s₀ s) (C : Gua P w Gc.B Gc.D Gc.Hm s s') : Gua P w G.B G.D G.Hm s₀ s' := by
  refine U.child (t := .finished) C S.inB S.mB (fun b o e => ?_) S.tk S.ex
  rw [S.hD]
  constructor
  · intro z
    rcases List.mem_cons.mp z with rfl | z
    · rw [S.bL] at e; cases e
    · exact z
  · exact List.mem_cons_of_mem _
end
section
variable {P : Program} {w : World} {base : Heap} {env : Env} {G Gc : GD} {t : Addr} {last : List Nat} {A : Around} {fs : List Frame}
  {q0 q1 q2 q3 q4 q5 q6 q7 q8 q9 q10 q11 q12 q13 : Pos} {kk : Nat}
theorem outer (S : St base env G Gc t last) (hA : A.handled = none) (hdp : A.depth + 1 < recursionLimit)
    (Ar : A.over (.forLoop (.Name "dealt" q0) (.ref Gc.a) [.For (.Name "index" q1) (.Name "last" q12) [.If (.Compare (.Name "index" q2) [.NotIn] [.Name "dealt" q3] q4) [.Expr (.Yield (some (.BinOp (.Name "dealt" q5) .Add (.Tuple [.Name "index" q6] kk q7) q8)) q9) q10] [] q11] [] q13] [] env) fs = A.deeper env)
    (hsp : splitAtGen fs = none) (hfg : fs.any Frame.guarded = false)
    (hend : ∀ s₀ s, Gua P w G.B G.D G.Hm s₀ s → ∀ c, Seg (model P w) A (GRd P w G) (GYd P w G) 0 s₀ c (leafOf (.ok .next)) fs s) :
    ∀ (post : List (List Nat)) (n : Nat) (s₀ s : Shared), (∃ pre, Gc.its = pre ++ post) → n = (post.flatMap fun d => cand d last).length → PI P w base env G Gc t s → Gua P w G.B G.D G.Hm s₀ s → RdyN P w (A.deeper env).in1 Gc post.length s →
      Seg (model P w) A (GRd P w G) (GYd P w G) n s₀ (.forLoop (.Name "dealt" q0) (.ref Gc.a) [.For (.Name "index" q1) (.Name "last" q12) [.If (.Compare (.Name "index" q2) [.NotIn] [.Name "dealt" q3] q4) [.Expr (.Yield (some (.BinOp (.Name "dealt" q5) .Add (.Tuple [.Name "index" q6] kk q7) q8)) q9) q10] [] q11] [] q13] [] env)
        ((model P w).den (.forLoop (.Name "dealt" q0) (.ref Gc.a) [.For (.Name "index" q1) (.Name "last" q12) [.If (.Compare (.Name "index" q2) [.NotIn] [.Name "dealt" q3] q4) [.Expr (.Yield (some (.BinOp (.Name "dealt" q5) .Add (.Tuple [.Name "index" q6] kk q7) q8)) q9) q10] [] q11] [] q13] [] env)) fs s := by
  intro post
  induction post with
  | nil =>
    intro n s₀ s _ hn I U r
    have hn : n = 0 := by simpa using hn
    subst hn
    refine seg_forLoop rfl ?_
    rw [Ar]
    refine rdy_next hA (I.lim S) hdp I.bare r (fun v s₁ pre it post' e1 e2 => by simp at e2) fun s₁ _ C => hend s₀ s₁ (gua_child S U C)
  | cons d post ih =>
    intro n s₀ s hpre hn I U r
    refine seg_forLoop rfl ?_
    rw [Ar]
    refine rdy_next hA (I.lim S) hdp I.bare r (fun v s₁ pre it post' e1 e2 item C r1 => ?_) (fun s₁ h0 _ => by simp at h0)
    obtain ⟨pre0, e0⟩ := hpre
    have hpp : it :: post' = d :: post := by
      have e3 : pre ++ (it :: post') = pre0 ++ (d :: post) := e1.symm.trans e0
      exact (List.append_inj' e3 (by simpa using e2)).2
    obtain ⟨rfl, rfl⟩ := List.cons.inj hpp
    have I1 := I.child S C
    have U1 := gua_child S U C
    obtain ⟨p, xs, rfl, hpB, htp, hv⟩ := item
    obtain ⟨m, hm, hl⟩ := I1.ns
    refine wpAny_storeName_local S.vDealt hm (fun h2 hn2 hs2 => ?_) (by rw [S.kind]; rfl)
    have pD : p ∉ Gc.D := fun z => by
      obtain ⟨o, e⟩ := S.dB p z
      exact Nat.not_lt.mpr hpB (Heap.lt_size e)
    have hkeep2 : ∀ b o, b ∉ [env.locals] → s₁.heap.get? b = some o → h2.get? b = some o := fun b o hb e => hs2.extBut b o (by simpa using hb) e
    have th2 : ∀ b o, s₁.heap.get? b = some o → ∃ o', h2.get? b = some o' := fun b o e => by
      by_cases hb : b = env.locals
      · obtain ⟨o', _, _, ho', _⟩ := hn2
        rw [hb]; exact ⟨o', ho'⟩
      · exact ⟨o, hs2.extBut b o hb e⟩
    have hmL : (fun y => if y = ("dealt" : Str) then some (Value.ref p) else m y) "last" = some (.ref t) := by
      show (if ("last" : Str) = "dealt" then some (Value.ref p) else m "last") = _
      rw [if_neg (by decide)]; exact hl
    have hmD : (fun y => if y = ("dealt" : Str) then some (Value.ref p) else m y) "dealt" = some (.ref p) := if_pos rfl
    have I2 : PI P w base env G Gc t { s₁ with heap := h2, toks := s₁.toks + 1 } := I1.mv (E := [env.locals]) S I1.bare hkeep2 (fun b o _ e => th2 b o e) (fun b hb => by rw [List.mem_singleton.mp hb]; exact S.D_ok _ S.L_in) ⟨_, hn2, hmL⟩
    have U2 : Gua P w G.B G.D G.Hm s₀ { s₁ with heap := h2, toks := s₁.toks + 1 } := gua_own (E := [env.locals]) S U1 rfl I1.bare hkeep2 fun b hb => .inl (by simpa using hb)
    have K2 : KO Gc.D G.g s₁ { s₁ with heap := h2, toks := s₁.toks + 1 } := ⟨rfl, I1.bare, fun _ _ _ e => e, fun b o hb e => hkeep2 b o (fun z => hb (by rw [List.mem_singleton.mp z]; exact S.L_in)) e, th2⟩
    have tp2 : IsTup h2 p xs := isTup_keep htp fun o e => hkeep2 p o (fun z => pD (by rw [List.mem_singleton.mp z]; exact S.L_in)) e
    clear hs2 hkeep2 th2
    generalize (fun y => if y = ("dealt" : Str) then some (Value.ref p) else m y) = m2 at hmL hmD hn2
    obtain ⟨s2, hs2⟩ : ∃ s2, s2 = ({ s₁ with heap := h2, toks := s₁.toks + 1 } : Shared) := ⟨_, rfl⟩
    have tp3 : IsTup s2.heap p xs := by rw [hs2]; exact tp2
    have hn3 : s2.heap.Ns env.locals m2 := by rw [hs2]; exact hn2
    rw [← hs2] at I2 U2 K2
    rw [← hs2]
    refine seg_execs_cons (seg_For ?_)
    rw [Ar]
    refine wpAny_Name (wpAny_loadName_local S.kind S.vLast hn3 hmL ?_) (by decide)
    obtain ⟨_, its, rl, ht⟩ := I2.hok t _ S.hlast
    refine iter_tuple ht fun p' => ?_
    have fresh : ∀ b o, s2.heap.get? b = some o → s2.heap.objs.size ≠ b := fun b o e z => Nat.lt_irrefl _ (by have := Heap.lt_size e; rw [← z] at this; exact this)
    have F : ItF base G Gc t p s₁ s2.heap.objs.size := by
      refine ⟨fun z => ?_, ?_, I2.hok.fresh (Nat.le_refl _), ?_, ?_, ?_, ?_, ?_, pD⟩
      · obtain ⟨o, e⟩ := S.dB _ z
        obtain ⟨o', e'⟩ := I2.eb _ o e
        exact fresh _ _ e' rfl
      · cases e : Gc.B.get? s2.heap.objs.size with
        | none => rfl
        | some o =>
          obtain ⟨o', e'⟩ := I2.eb _ o e
          exact (fresh _ _ e' rfl).elim
      · cases e : base.get? s2.heap.objs.size with
        | none => rfl
        | some o => exact (fresh _ _ (I2.bs _ o e) rfl).elim
      · obtain ⟨o, _, _, ho, _⟩ := I2.gen
        exact fresh _ _ ho
      · cases e : s₁.heap.get? s2.heap.objs.size with
        | none => rfl
        | some o =>
          obtain ⟨o', e'⟩ := K2.there _ o e
          exact (fresh _ _ e' rfl).elim
      · obtain ⟨o, ho, _⟩ := ht
        exact fresh _ _ ho
      · obtain ⟨o, ho, _⟩ := tp3
        exact fresh _ _ ho
    have kp : ∀ b o, s2.heap.get? b = some o → (s2.heap.push { cls := .type "tuple_iterator", data := .fields #[.ref t, .int 0 0] }).get? b = some o := fun b o e => Heap.get?_push_of_some _ e
    have hmem : it ∈ Gc.its := by rw [e1]; simp
    refine inner S F hv (S.small it hmem) hA ((over_loop rfl rfl).trans Ar) ?_ ?_ (rest := (post'.flatMap fun d => cand d last).length) (fun s₀' s4 I4 U4 K4 c => ?_) last 0 n s₀ _ rfl ?_ ?_ ?_ ?_
    · show (splitAtGen fs).map _ = none
      rw [hsp]; rfl
    · show (false || fs.any Frame.guarded) = false
      rw [hfg]; rfl
    · refine seg_leaf (.ok .next) ?_
      show Seg _ _ _ _ _ s₀' _ ((execs [] env).wrap _ _ _ _) fs s4
      refine seg_execs_nil ?_
      exact seg_again rfl (ih _ s₀' s4 ⟨pre ++ [it], by rw [e1]; simp⟩ rfl I4 U4 ((r1.move K4 S.hg S.ca).now I4.bare))
    · rw [hn, List.flatMap_cons, List.length_append]
    · refine ⟨pre.flatMap fun d => cand d last, post'.flatMap fun d => cand d last, ?_, rfl⟩
      rw [S.its, e1, List.flatMap_append, List.flatMap_cons, ← List.append_assoc]
      rfl
    · refine ⟨I2.mv (E := []) S I2.bare (fun b o _ e => kp b o e) (fun b o _ e => ⟨o, kp b o e⟩) (fun b hb => by cases hb) ⟨m2, ns_keep hn3 fun o e => kp _ o e, hmL⟩, K2.trans ⟨rfl, I2.bare, fun _ _ _ e => e, fun b o _ e => kp b o e, fun b o e => ⟨o, kp b o e⟩⟩,
        ⟨m2, ns_keep hn3 fun o e => kp _ o e, hmL, hmD⟩, isTup_keep tp3 fun o e => kp _ o e, ⟨_, Heap.get?_push_size _ rfl, rfl, rfl⟩⟩
    · exact gua_own (E := []) S U2 rfl I2.bare (fun b o _ e => kp b o e) fun b hb => by cases hb
end
end CG

/-! CG6: a call of a generator def. -/
namespace CG
open PySem PySem.Spec PyProof.Rows L2 GenW Evl CE
/-- an instance's own dict is known with it -/
def OwnK (H : Hp) : Prop := ∀ b x, H b = some (.own x) → ∃ C d f, H x = some (.ins C d f)
theorem onlyT_to {H : Hp} : OwnK (onlyT H) := fun b x e => by
  unfold onlyT at e
  split at e
  · cases e
  · cases e
  · next y q =>
    split at e
    · next C d f q2 =>
      cases e
      exact ⟨_, _, _, onlyT_ins q2⟩
    · cases e
  · cases e
theorem ex_onlyT {Hm H : Hp} (k : TK Hm) (o : OwnK Hm) (e : Ex Hm H) : Ex Hm (onlyT H) := fun b u h => by
  have z := k b u h
  cases u with
  | tup xs => exact onlyT_tup (e b _ h)
  | ins C d f => exact onlyT_ins (e b _ h)
  | own x =>
    obtain ⟨C, d, f, q⟩ := o b x h
    exact onlyT_own (e b _ h) (e x _ q)
  | _ => exact z.elim
/-- the last of a generator's body -/
abbrev gK0 : Flow → Sem PySem.Fin := fun f => .pure (.done (.ret (match f with | .ret v => v | _ => .none)))
abbrev gJ0 (env : Env) : Value → Sem PySem.Fin := fun e => (leaving env e).wrap (fun _ => .raise e) .raise id id
/-- what a call of a generator def gives -/
def GMd (P : Program) (w : World) (k : Nat) (outer : List Env) (Hm : Hp) (its : List (List Nat)) (s : Shared) (u : Value) (s' : Shared) : Prop :=
  ∃ (a : Addr) (g : Nat) (c : Code), u = .ref a ∧ s.heap.objs.size ≤ a ∧ s'.heap.IsGen a g ∧ s.gens.size ≤ g ∧ s'.gens[g]? = some (.fresh c) ∧ s'.os = s.os ∧ AllBare s'.gens ∧ s'.heap.NoLimit ∧ (∀ b o, s.heap.get? b = some o → s'.heap.get? b = some o) ∧
    ∀ (A : Around) (s2 : Shared), Room k A → A.frames = some outer → (∀ b o, s'.heap.get? b = some o → s2.heap.get? b = some o) → s2.os = s.os → AllBare s2.gens → g < s2.gens.size →
      Seg (model P w) A (GRd P w ⟨s.heap, frs outer, Hm, a, g, its⟩) (GYd P w ⟨s.heap, frs outer, Hm, a, g, its⟩) its.length s2 c ((model P w).den c) [] s2
/-- the context of its body -/
abbrev gX (P : Program) (w : World) (K : PySem.W.Frag) (mg : Str → Option Value) (base : Heap) (N : List Str) (qual : Str) (scope : Scope) (f : Addr) (cd : Value) (A : Around) (outer : List Env) (s : Shared) (H : Hp) (pn : List (Addr × Obj)) : Cx :=
  (gcxOf P w K mg base N qual scope f cd A outer s H E0 pn).nox
theorem gd_of {P : Program} {w : World} {K : PySem.W.Frag} {mg : Str → Option Value} {base : Heap} {k : Nat} {f : Addr} {name qual : Str} {params : Arguments} {body : List Stmt} {scope : Scope} {dV kV doc pm cdv ct oc : Value} {an od : Option Addr}
    {osl : Array (Option Value)} {N ps : List Str} (lk : K.lookup f = some ⟨oc, od, .func (PySem.W.fnOf name qual params body scope dV kV doc pm an cdv ct), osl⟩) (hcd : PySem.W.codeIn K cdv qual = true) (S : GScope N ps scope)
    {A : Around} {outer : List Env} {s : Shared} {H : Hp} {args : Args} {us : List Value} {vs : List V} {its : List (List Nat)} (hr : Room (k + 1) A) (e0 : Env0 P w K mg base A outer s H)
    (hb : BindsTo s (PySem.W.fnOf name qual params body scope dV kV doc pm an cdv ct) args (ps.zip us)) (hl : vs.length = ps.length) (r : Vals vs us)
    (hbody : ∀ (a : Addr) (g : Nat) (go : Obj) (Aw : Around) (s2 : Shared), Room (k + 1) Aw → Aw.frames = some outer → g < s2.gens.size → (∀ h : Heap, h.get? a = some go → h.IsGen a g) →
      Inv (gX P w K mg base N qual scope f cdv Aw outer s H [(a, go)]) [] (start N vs) H s2 → (∀ b o, s.heap.get? b = some o → s2.heap.get? b = some o) →
      Seg (model P w) Aw (GRd P w ⟨s.heap, frs outer, H, a, g, its⟩) (GYd P w ⟨s.heap, frs outer, H, a, g, its⟩) its.length s2 (.func body (envOfC qual scope s.heap.objs.size f cdv))
        ((execs body (envOfC qual scope s.heap.objs.size f cdv)).wrap gK0 (gJ0 (envOfC qual scope s.heap.objs.size f cdv)) id id) [] s2) :
    codeAny (model P w) A (.call (.ref f) args) (fun r s' => match r with | .ok (.ret u) => GMd P w (k + 1) outer H its s u s' | _ => False) s := by
  have KX : K.In s.heap := e0.mod.kin.keeps fun b o e => (e0.bs b o e).1
  have lim : s.heap.NoLimit := e0.mod.nolimit.keeps fun b o e => (e0.bs b o e).1
  have hkind : ∀ y ∈ ps.zip us, scope.names.lookup y.1 = some .local ∨ (scope.names.lookup y.1 = some .cell ∧ ((cellsFrom (s.heap.objs.size + 1) scope.names []).lookup y.1).isSome = true) := fun ⟨n, v⟩ hy => by
    rcases S.par n (List.of_mem_zip hy).1 with q | q
    · exact .inl q
    · exact .inr ⟨q, PySem.W.cellsFrom_some _ _ _ (.inl q)⟩
  refine codeAny_call_generator hr.depth (KX _ _ lk) rfl S.co S.gen rfl (PySem.W.codeRec_of KX hcd) (hb _ _ _ _ ?_)
  refine wpAny_newFunctionEnv_cells S.kind hkind fun env he s1 x => ?_
  subst he
  have lim1 : s1.heap.NoLimit := lim.keeps x.toInCall.keep
  refine ⟨lim1, ?_⟩
  obtain ⟨h1, tk, es1, hk1⟩ := x.done
  have os1 : s1.os = s.os := by rw [es1]
  have gen1 : s1.gens = s.gens := by rw [es1]
  have lt1 : s.heap.objs.size < s1.heap.objs.size := x.toInCall.ns.lt
  have sz1 : s.heap.objs.size ≤ s1.heap.objs.size := Nat.le_of_lt lt1
  have kp1 : ∀ b o, s.heap.get? b = some o → s1.heap.get? b = some o := x.toInCall.keep
  have main : ∀ (go : Obj) (nm qn : Value) (tk2 : Nat), go.cls = .type "generator" → go.data = .fields #[.int s1.gens.size 0, nm, qn] → go.slots = #[] → (∀ h : Heap, (h.push go).get? h.objs.size = some go) →
      GMd P w (k + 1) outer H its s (.ref s1.heap.objs.size) { s1 with gens := s1.gens.push (.fresh (.func body (envOfC qual scope s.heap.objs.size f cdv))), toks := tk2, heap := s1.heap.push go } := by
    intro go nm qn tk2 hgc hgd0 hgs hgp
    have hgen : ∀ h : Heap, h.get? s1.heap.objs.size = some go → h.IsGen s1.heap.objs.size s1.gens.size := fun h e => ⟨go, nm, qn, e, hgc, hgd0, hgs⟩
    have hpushed : (s1.heap.push go).get? s1.heap.objs.size = some go := hgp _
    refine ⟨s1.heap.objs.size, s1.gens.size, _, rfl, sz1, hgen _ hpushed, by rw [gen1]; exact Nat.le_refl _, Array.getElem?_push_size .., os1, ?_, lim1.keeps fun b o e => Heap.get?_push_of_some _ e, fun b o e => Heap.get?_push_of_some _ (kp1 b o e), ?_⟩
    · exact AllBare.push (by rw [gen1]; exact e0.bare) rfl
    intro Aw s2 hrw hfr hk2 hos hba hgl
    have e0w : Env0 P w K mg base Aw outer s H := ⟨hfr, e0.mod, e0.bs, e0.bsz, e0.funs, e0.frf, e0.hok, e0.bare⟩
    have I1 : Inv (gcxOf P w K mg base N qual scope f cdv Aw outer s H E0 []) [] (start N vs) H s1 := inv_startG S hrw.hd e0w hl r x
    have kp2 : ∀ b o, s1.heap.get? b = some o → s2.heap.get? b = some o := fun b o e => hk2 b o (Heap.get?_push_of_some _ e)
    have I2 : Inv (gcxOf P w K mg base N qual scope f cdv Aw outer s H E0 []) [] (start N vs) H s2 :=
      I1.call' (ch := []) (hos.trans os1.symm) (Un.kept kp2) (I1.hok.kept kp2) hba fun b z => by simp at z
    have hea : s2.heap.get? s1.heap.objs.size = some go := hk2 s1.heap.objs.size go hpushed
    have hgd : ∀ v, go.data ≠ .cell v := fun v q => by rw [hgd0] at q; cases q
    refine seg_func ?_
    refine hbody s1.heap.objs.size s1.gens.size go Aw s2 hrw hfr hgl hgen ((Inv.pinnedG I2 fun p hp => ?_).wish _) fun b o e => kp2 b o (kp1 b o e)
    have z : p ∈ [(s1.heap.objs.size, go)] := by simpa using hp
    rw [List.mem_singleton.mp z]
    exact ⟨hea, I1.hok.fresh (Nat.le_refl _), Nat.ne_of_gt lt1, I1.nofs (Nat.le_refl _), hgd⟩
  exact main _ _ _ _ rfl rfl rfl fun h => Heap.get?_push_size _ rfl
/-- what the consumer may trust, out of the invariant -/
theorem gua_inv {X : Cx} {pins : List (Addr × Obj)} {σ : L2.St} {H : Hp} {s2 s' : Shared} (I : Inv X pins σ H s') (hex : X.ex = []) (k : TK X.H_0) (c : HOk X.prog X.w X.H_0 X.s_0.heap) (e : Ex X.H_0 H) (k2 : ∀ b o, X.s_0.heap.get? b = some o → s2.heap.get? b = some o)
    (os : s2.os = X.s_0.os) : Gua X.prog X.w X.s_0.heap (frs X.outer) X.H_0 s2 s' := by
  have nex : ∀ b, b ∉ X.ex := fun b z => by rw [hex] at z; cases z
  refine ⟨I.os.trans os.symm, I.bare, fun b o₀ o e1 e2 e3 e4 => ?_, fun b o₀ o e1 e2 e3 e4 => ?_, ok_sub k c I.hok e⟩
  · have := k2 b o₀ e1
    rw [e4] at this; cases this
    exact I.base.keep b _ e1 e2 e3 (nex b)
  · have := k2 b o₀ e1
    rw [e4] at this; cases this
    exact I.base.slot b _ e1 e2 e3 (nex b)
end CG

/-! CG7: deals. -/
namespace CL
def stepD (js : List (List Nat)) (p : Nat) (d : List Nat) : List (List Nat) := ((openM js [p]).filter fun j => !d.contains j).map fun j => d ++ [j]
def dealsL (js : List (List Nat)) (g : List Nat) : List (List Nat) := g.foldl (fun acc p => acc.flatMap (stepD js p)) [[]]
theorem dealsL_snoc (js : List (List Nat)) (h : List Nat) (p : Nat) : dealsL js (h ++ [p]) = (dealsL js h).flatMap (stepD js p) := by
  unfold dealsL
  rw [List.foldl_append]
  rfl
theorem dealsL_len (js : List (List Nat)) (g : List Nat) : ∀ d ∈ dealsL js g, d.length = g.length := by
  rw [← List.reverse_reverse g]
  generalize g.reverse = r
  induction r with
  | nil => intro d hd; rw [List.mem_singleton.mp (show d ∈ [[]] from hd)]; rfl
  | cons p r ih =>
    intro d hd
    rw [List.reverse_cons, dealsL_snoc] at hd
    obtain ⟨d0, h0, h1⟩ := List.mem_flatMap.mp hd
    obtain ⟨j, _, rfl⟩ := List.mem_map.mp h1
    rw [List.reverse_cons, List.length_append, List.length_append, ih d0 h0]
    rfl
end CL
namespace CG
open PySem PySem.Spec PyProof.Rows L2 GenW Evl CE CW
abbrev dN : List Str := ["jobs", "group", "head", "last", "dealt", "index"]
abbrev dS : Scope := defScope sDeals
theorem scDeals : GScope dN ["jobs", "group"] dS := ⟨rfl, rfl, rfl, by decide +kernel, rfl, by decide +kernel, by decide +kernel⟩
abbrev dk (m : Nat) : Nat := 2 * m + 4
theorem isTG_onlyT {js : List (List Nat)} {t : V} {H : Hp} (h : IsTG js t H) : IsTG js t (onlyT H) := stt_TG js _ _ _ (fun _ _ e => onlyT_tup e) h
theorem isG_onlyT {g : List Nat} {v : V} {H : Hp} (h : IsG g v H) : IsG g v (onlyT H) := stt_G g _ _ _ (fun _ _ e => onlyT_tup e) h
theorem isJ_onlyT {C : Addr} {n : Nat} {js : List (List Nat)} {v : V} {H : Hp} (h : IsJ C n js v H) : IsJ C n js v (onlyT H) := by
  obtain ⟨a, dx, t, hv, ha, ht⟩ := h
  exact ⟨a, dx, t, hv, onlyT_ins ha, isTG_onlyT ht⟩
section
variable {P : Program} {w : World} {K : PySem.W.Frag} {mg : Str → Option Value} {base : Heap} {C : Addr}
/-- a call of deals, what it gives -/
def DOK (P : Program) (w : World) (K : PySem.W.Frag) (mg : Str → Option Value) (base : Heap) (C f : Addr) (fd : FuncData) (n : Nat) (js : List (List Nat)) (g : List Nat) : Prop :=
  ∀ (A : Around) (outer : List Env) (s : Shared) (H : Hp) (args : Args) (us : List Value) (vj vg : V), Room (dk g.length) A → Env0 P w K mg base A outer s H → TK H → OwnK H → BindsTo s fd args ((["jobs", "group"] : List Str).zip us) → Vals [vj, vg] us → IsJ C n js vj H → IsG g vg H →
    codeAny (model P w) A (.call (.ref f) args) (fun r s' => match r with | .ok (.ret u) => GMd P w (dk g.length) outer H (CL.dealsL js g) s u s' | _ => False) s
/-- deals(.., ..) as it is read -/
theorem run_deals {X : Cx} {f : Addr} {fd : FuncData} {n : Nat} {js : List (List Nat)} {g : List Nat} {vj vg : V} {i j : Nat} {xj xg : Str} {p1 p2 p3 pos : Pos} {σ : L2.St} {H : Hp} {pins : List (Addr × Obj)} {s : Shared} {gz : Nat}
    (D : DOK X.prog X.w X.K X.mg X.base C f fd n js g) (hmg : X.mg "deals" = some (.ref f)) (hk : PySem.W.keepIn X.K (.ref f) = true) (hb : Binds X.K fd ["jobs", "group"] []) (hr : Room (dk g.length) X.A) (hg : Gl X "deals")
    (ha : PA X [.Name xj p1, .Name xg p2] (tCons (tVar i) (tCons (tVar j) tNil))) (hi : σ[i]? = some (some vj)) (hj : σ[j]? = some (some vg)) (h1 : IsJ C n js vj H) (h2 : IsG g vg H) (I : Inv X pins σ H s) (hgz : gz ≤ s.gens.size)
    (he : starEach [.Name xj p1, .Name xg p2] X.env = (false, eval (.Name xj p1) X.env) :: starEach [.Name xg p2] X.env := by rfl) (hpl : (backTo pos (starEach [.Name xg p2] X.env)).any (·.1) = false := by rfl) :
    wpAny (model X.prog X.w) X.A (eval (.Call (.Name "deals" p3) [.Name xj p1, .Name xg p2] [] pos) X.env) (fun u s' => ∃ H1 s1, Inv X pins σ H1 s1 ∧ Ex H H1 ∧ gz ≤ s1.gens.size ∧ GMd X.prog X.w (dk g.length) X.stack (onlyT H1) (CL.dealsL js g) s1 u s') X.xe s := by
  refine wpAny_Call_Name_kw (ld_glob I hg hmg ?_ (by decide))
  refine PySem.W.callWith_K (h₀ := X.base) I.ok.mod.kin hk ?_ he hpl
  refine wpAny_gsz (n := gz) hgz (wpAny_mono (ha.run pos pins s σ H (fun vs H1 => vs = [vj, vg] ∧ Ex H H1) I ⟨vj, hi, vg, hj, rfl, Ex.refl H⟩) (fun us s1 q hsz => ?_) fun _ _ z _ => z)
  obtain ⟨vs, H1, I1, r, rfl, e1⟩ := q
  refine ⟨I1.kIn, ?_⟩
  have e0 := I1.env0
  have hl2 : (us ++ []).length = (["jobs", "group"] : List Str).length := by rw [List.append_nil, ← r.length]; rfl
  have bb := hb s1 us I1.kIn hl2
  rw [List.append_nil] at bb
  refine wpAny_call (codeAny_mono (D X.A X.stack s1 (onlyT H1) ⟨us, []⟩ us vj vg hr ⟨e0.frames, e0.mod, fun b o e => ⟨(e0.bs b o e).1, onlyT_none (e0.bs b o e).2⟩, e0.bsz, e0.funs, fun b hb => onlyT_none (e0.frf b hb), onlyT_ok e0.hok, e0.bare⟩ onlyT_tk onlyT_to bb r
    (isJ_onlyT (stx_J C n js _ _ _ e1 h1)) (isG_onlyT ((stt_G g).x _ _ _ e1 h2))) fun r s' hq => ?_)
  cases r with
  | error e => exact False.elim hq
  | ok fl =>
    cases fl with
    | ret u => exact ⟨H1, s1, I1, e1, hsz, hq⟩
    | next => exact False.elim hq
    | brk => exact False.elim hq
    | cont => exact False.elim hq
end
end CG

/-! CG8: deals keeps its promise. -/
namespace CG
open PySem PySem.Spec PyProof.Rows L2 GenW Evl CE CW
section
variable {X : Cx} {σ : L2.St} {H : Hp} {s1 s5 : Shared} {a ac t : Addr} {go : Obj} {g gc : Nat} {its itc : List (List Nat)} {last : List Nat}
theorem fr_ex (I : Inv X [] σ H s1) : ∀ b ∈ frs X.stack, X.base.get? b = none ∧ ∃ o, s1.heap.get? b = some o := fun b hb => by
  obtain ⟨h1, o, h2, _⟩ := (I.env0.funs).mem hb
  exact ⟨h1, o, h2⟩
theorem st_of (I : Inv X [] σ H s1) (hex : X.ex = []) (hs : X.stack = X.env :: X.outer) (hf : X.env.frame = some X.env.locals) (hL : X.env.locals = X.s_0.heap.objs.size) (hpn : X.pn = [(a, go)]) (co : X.env.scope.isCoroutine = false) (inter : interactive X.env = false)
    (v1 : X.env.kindOf "last" = some .local) (v2 : X.env.kindOf "dealt" = some .local) (v3 : X.env.kindOf "index" = some .local) (k : TK X.H_0) (o : OwnK X.H_0) (e : Ex X.H_0 H) (hok0 : HOk X.prog X.w X.H_0 X.s_0.heap)
    (hlast : H t = some (.tup (eN last))) (hg : g < gc) (hac : s1.heap.objs.size ≤ ac) (hits : its = itc.flatMap fun d => (last.filter fun j => !d.contains j).map fun j => d ++ [j]) (small : ∀ d ∈ itc, d.length ≤ 1000) :
    CG.St X.base X.env ⟨X.s_0.heap, frs X.outer, X.H_0, a, g, its⟩ ⟨s1.heap, frs X.stack, onlyT H, ac, gc, itc⟩ t last := by
  have nex : ∀ b, b ∉ X.ex := fun b z => by rw [hex] at z; cases z
  have hD : frs X.stack = X.env.locals :: frs X.outer := by
    rw [hs]
    show List.filterMap (·.frame) (X.env :: X.outer) = _
    rw [List.filterMap_cons, hf]
    rfl
  obtain ⟨p1, p2, p3, p4, _⟩ := I.pin (a, go) (by rw [hpn]; simp)
  have f0 : ∀ b ∈ frs X.outer, ∃ o, X.s_0.heap.get? b = some o := fun b hb => let ⟨_, o, h, _⟩ := I.ok.funs.mem hb; ⟨o, h⟩
  have nL : X.s_0.heap.get? X.env.locals = none := by
    cases q : X.s_0.heap.get? X.env.locals with
    | none => rfl
    | some u => exact (Nat.lt_irrefl _ (by have := Heap.lt_size q; rw [hL] at this; exact this)).elim
  exact
    { kind := I.ok.kind, co := co, inter := inter, vLast := v1, vDealt := v2, vIndex := v3, lim := I.ok.mod.nolimit, hD := hD
      nL := fun z => by
        obtain ⟨u, q⟩ := f0 _ z
        rw [nL] at q; cases q
      na := p4, aL := p3
      baseD := fun b u q z => by
        have := (fr_ex I b z).1
        rw [q] at this; cases this
      hcD := fun b hb => onlyT_none (I.env0.frf b hb)
      dB := fun b hb => (fr_ex I b hb).2
      hca := onlyT_none p2
      hcb := fun b u q => onlyT_none (I.bs b u q).2
      LB := hL
      mL := hok0.fresh (by rw [hL]; exact Nat.le_refl _)
      inB := fun b u q => I.base.there b u q (nex b)
      mB := fun b u q h => onlyT_none (I.base.free b u q h (nex b))
      ex := ex_onlyT k o e
      tk := k
      ctk := onlyT_tk
      hlast := onlyT_tup hlast
      hg := hg
      ca := fun z => by
        obtain ⟨u, q⟩ := (fr_ex I ac z).2
        exact Nat.not_lt.mpr hac (Heap.lt_size q)
      its := hits, small := small
      aB := ⟨go, p1⟩
      bB := fun b u q => ⟨u, (I.bs b u q).1⟩ }
theorem pi_of (I : Inv X [] σ H s1) (hpn : X.pn = [(a, go)]) (hgo : ∀ h : Heap, h.get? a = some go → h.IsGen a g) (i : Nat) (hi : X.N[i]? = some "last") (hσ : σ[i]? = some (some (.ref t))) (v1 : X.env.kindOf "last" = some .local) (hv : Vis X.env.scope "last")
    (k5 : ∀ b o, s1.heap.get? b = some o → s5.heap.get? b = some o) (hb : AllBare s5.gens) :
    PI X.prog X.w X.base X.env ⟨X.s_0.heap, frs X.outer, X.H_0, a, g, its⟩ ⟨s1.heap, frs X.stack, onlyT H, ac, gc, itc⟩ t s5 := by
  obtain ⟨m, hn, hl⟩ := I.loc
  obtain ⟨u, ru, lk⟩ := hl i _ _ hi hσ hv
  cases ru
  have hm : m "last" = some (.ref t) := by
    rcases lk with ⟨_, z⟩ | ⟨z, _⟩
    · exact z
    · rw [v1] at z
      rcases z with z | z <;> cases z
  refine ⟨hb, ⟨m, ns_keep hn fun o e => k5 _ o e, hm⟩, hgo _ (k5 _ _ (I.pin (a, go) (by rw [hpn]; simp)).1), fun b o e => k5 b o (I.bs b o e).1, (onlyT_ok I.hok).kept k5, fun b o e => ⟨o, k5 b o e⟩⟩
end
end CG

/-! CG9: deals keeps its promise. -/
namespace CG
open PySem PySem.Spec PyProof.Rows L2 GenW Evl CE CW
theorem hok_ko {P : Program} {w : World} {H : Hp} {D : List Addr} {g : Nat} {s s' : Shared} (x : HOk P w H s.heap) (k : KO D g s s') (hD : ∀ b ∈ D, H b = none) : HOk P w H s'.heap := fun a o q =>
  (x a o q).stay (fun b u hb e => k.keep b u (fun z => by
    have hn := hD b z
    rcases hb with rfl | hb
    · rw [hn] at q; cases q
    · rw [hn] at hb; cases hb) e) (fun _ z => z) fun _ _ z => z
section
variable {P : Program} {w : World} {K : PySem.W.Frag} {mg : Str → Option Value} {base : Heap} {C : Addr}
theorem deals_ok {f : Addr} {fd : FuncData} (F : Fun K "deals" "deals" sDeals f fd) (hmg : mg "deals" = some (.ref f)) (hbd : Binds K fd ["jobs", "group"] []) (T : TJ K mg C) (M : CalM P w K mg base 2 C "open_to" ["self", "group"] (spOpenTo C)) {n : Nat} {js : List (List Nat)} (hj : js.length ≤ 7) :
    ∀ (r : List Nat), r.length ≤ 7 → DOK P w K mg base C f fd n js r.reverse := by
  obtain ⟨oc, od, kV, doc, pm, an, cdv, ct, osl, rfl, lk, hcd⟩ := F.ex
  intro r
  induction r with
  | nil =>
    intro _ A outer s H args us vj vg hr e0 hk ho hb rv h1 h2
    refine gd_of (k := 3) lk hcd scDeals hr e0 hb rfl rv (fun a g0 go Aw s2 hrw hfr hgl2 hgen I2 hk2 => ?_)
    have hu := (hrw.deeper (envOfC "deals" dS s.heap.objs.size f cdv)).units
    have h1 : IsJ C n js vj H := h1
    have h2 : IsG [] vg H := h2
    refine seg_execs_cons (seg_If ?_)
    rw [over_func]
    refine wpAny_mono (PT.run (X := gX P w K mg base dN "deals" dS f cdv Aw outer s H [(a, go)]) (pt_cmpR (k_eqD K hu) (pv 1) (pe_tup pa_nil) (nomark _)) [] s2 (start dN [vj, vg]) H (fun b H1 => b = true ∧ Ex H H1) I2
      (et_test (ev_eqG (g := []) (h := []) (ep_var rfl h2 (stt_G _).x) isG_nil) H (Ex.refl H) _ fun H2 e2 => ⟨rfl, e2⟩)) (fun b s3 hq => ?_) (fun _ _ z => z)
    obtain ⟨H1, I3, rfl, e1⟩ := hq
    refine seg_execs_cons ?_
    refine seg_Expr_Yield rfl rfl rfl ?_ rfl rfl
    rw [over_func]
    refine wpAny_Tuple (Calls.spliced_nil ⟨Nat.zero_le _, fun kap hkap => ?_⟩)
    have G3 : Gua P w s.heap (frs outer) H s2 s3 := gua_inv I3 rfl hk e0.hok e1 hk2 I2.os
    have pin := (I3.pin (a, go) (List.mem_append_left _ List.mem_cons_self)).1
    have kp : ∀ b o, s3.heap.get? b = some o → (s3.heap.push { cls := .type "tuple", data := .seq ([] : List Value).toArray }).get? b = some o := fun b o e => Heap.get?_push_of_some _ e
    refine ⟨⟨[], [], [], rfl, rfl, s3.heap.objs.size, _, rfl, ?_, IsTup.new _ _, .nil⟩, G3.step (E := []) rfl I3.bare (fun b o _ e => kp b o e) (fun b z => by cases z), hgen _ (kp _ _ pin), fun s5 k5 => hkap .none s5 ?_⟩
    · obtain ⟨m, ⟨o, _, _, ho, _⟩, _⟩ := I3.loc
      exact Nat.le_of_lt (Heap.lt_size ho)
    · refine seg_execs_nil (seg_execs_nil ?_)
      refine seg_end (.ok (.ret .none)) (.inl ⟨.inl rfl, rfl, Gua.refl k5.bare ?_⟩)
      exact hok_ko (((ok_sub hk e0.hok I3.hok e1).kept kp)) k5 e0.frf
  | cons p r ih =>
    intro hlen A outer s H args us vj vg hr e0 hk ho hb rv h1 h2
    have hlen' : r.length + 1 ≤ 7 := by rw [List.length_cons] at hlen; exact hlen
    rw [List.reverse_cons] at h2 hr ⊢
    have eg : (r.reverse ++ [p]).length = r.length + 1 := by simp
    have er : r.reverse.length = r.length := List.length_reverse
    rw [eg] at hr ⊢
    refine gd_of (k := 2 * (r.length + 1) + 3) lk hcd scDeals hr e0 hb rfl rv (fun a g0 go Aw s2 hrw hfr hgl2 hgen I2 hk2 => ?_)
    have hrX := hrw.deeper (envOfC "deals" dS s.heap.objs.size f cdv)
    have hu := hrX.units
    have h1 : IsJ C n js vj H := h1
    have h2 : IsG (r.reverse ++ [p]) vg H := h2
    refine seg_execs_cons (seg_If ?_)
    rw [over_func]
    refine wpAny_gsz (n := g0 + 1) hgl2 (wpAny_mono (PT.run (X := gX P w K mg base dN "deals" dS f cdv Aw outer s H [(a, go)]) (pt_cmpR (k_eqD K hu) (pv 1) (pe_tup pa_nil) (nomark _)) [] s2 (start dN [vj, vg]) H (fun b H1 => b = false ∧ Ex H H1) I2
      (et_test (ev_eqG (g := r.reverse ++ [p]) (h := []) (ep_var rfl h2 (stt_G _).x) isG_nil) H (Ex.refl H) _ fun H2 e2 => ⟨by simp, e2⟩)) (fun b s3 hq hsz3 => ?_) (fun _ _ z _ => z))
    obtain ⟨H1, I3, rfl, e1⟩ := hq
    have hJ1 := stx_J C n js _ _ _ e1 h1
    have hG1 := (stt_G _).x _ _ _ e1 h2
    refine seg_execs_cons (seg_wrap ?_)
    rw [over_func]
    refine wpAny_gsz (n := g0 + 1) hsz3 (wpAny_mono (PS.run (X := gX P w K mg base dN "deals" dS f cdv Aw outer s H [(a, go)]) (ps_par (i := 2) (j := 3) rfl scDeals.nd rfl rfl (by decide) rfl rfl (pa_cons (pe_slice (k_slT K) (pv 1) po_none (po_some (pe_un un_neg pe_int)))
        (pa_cons (pe_mth T M (hrX.mono (by omega)) (pv 0) (pa_cons (pe_slice (k_slT K) (pv 1) (po_some (pe_un un_neg pe_int)) po_none) pa_nil)) pa_nil)) (by rfl)) [] s3 (start dN [vj, vg]) H1
        { nx := fun σ' H' => ∃ vh vl, σ' = [some vj, some vg, some vh, some vl, none, none] ∧ Ex H1 H' ∧ IsG r.reverse vh H' ∧ IsG (CL.openM js [p]) vl H', rt := fun _ _ => False } I3 ?_) (fun fl s4 q hsz4 => ?_) (fun _ _ z _ => False.elim z))
    · have a1 := ep_slG (K := K) (te := tVar 1) (σ := start dN [vj, vg]) (H := H1) (tl := tNoPart) (lo := none) (hi := some (-1)) (ep_var rfl hG1 (stt_G _).x) eo_none (eo_some (ev_un ev_c ru_neg))
      have a2 := ep_slG (K := K) (te := tVar 1) (σ := start dN [vj, vg]) (H := H1) (th := tNoPart) (lo := some (-1)) (hi := none) (ep_var rfl hG1 (stt_G _).x) (eo_some (ev_un ev_c ru_neg)) eo_none
      rw [cutN_init] at a1
      rw [cutN_last] at a2
      exact s_par (eap_cons a1 (stt_G _).x (eap_cons (use_openTo (ep_var rfl hJ1 (stx_J C n js)) a2 hj (show 1 ≤ 7 by decide)) (stt_G _).x eap_nil)) fun v w H2 e2 hv hw => ⟨v, w, rfl, e2, hv, hw⟩
    cases fl with
    | brk => obtain ⟨_, _, _, z⟩ := q; exact z.elim
    | cont => obtain ⟨_, _, _, z⟩ := q; exact z.elim
    | ret u => obtain ⟨_, _, _, _, _, z⟩ := q; exact z.elim
    | next =>
      obtain ⟨σ4, H2, I4, vh, vl, rfl, e2, hh, ⟨t, rfl, ht⟩⟩ := q
      have hJ2 := stx_J C n js _ _ _ e2 hJ1
      refine seg_execs_cons (seg_For ?_)
      rw [over_func]
      refine wpAny_mono (run_deals (X := gX P w K mg base dN "deals" dS f cdv Aw outer s H [(a, go)]) (i := 0) (j := 2) (g := r.reverse) (gz := g0 + 1) (ih (by omega)) hmg F.kp hbd (hrX.mono (by rw [er]; show 2 * r.length + 4 ≤ _; omega)) (by rfl) (pa_cons (pv 0) (pa_cons (pv 2) pa_nil)) rfl rfl hJ2 hh I4 hsz4) (fun u s5 q => ?_) (fun _ _ z => z)
      obtain ⟨H3, s1c, I5, e3, hsz5, ac, gc, c, rfl, ha1, hgen5, hg5, hgs5, os5, bare5, lim5, kp5, wake⟩ := q
      refine wpAny_pyIter_gen hgen5 fun p' => ?_
      have eX : Ex H H3 := (e1.trans e2).trans e3
      have hits : CL.dealsL js (r.reverse ++ [p]) = (CL.dealsL js r.reverse).flatMap fun d => ((CL.openM js [p]).filter fun j => !d.contains j).map fun j => d ++ [j] := CL.dealsL_snoc js r.reverse p
      have S := st_of (X := gX P w K mg base dN "deals" dS f cdv Aw outer s H [(a, go)]) (g := g0) (gc := gc) (ac := ac) I5 rfl rfl rfl rfl rfl rfl rfl rfl rfl rfl hk ho eX e0.hok (e3 _ _ ht) (Nat.lt_of_lt_of_le hsz5 hg5) ha1 hits
        (fun d hd => by rw [CL.dealsL_len _ _ d hd, er]; omega)
      have PI5 := pi_of (X := gX P w K mg base dN "deals" dS f cdv Aw outer s H [(a, go)]) (s5 := s5) (t := t) (ac := ac) (gc := gc) (its := CL.dealsL js (r.reverse ++ [p])) (itc := CL.dealsL js r.reverse) I5 rfl hgen 3 rfl rfl rfl (.inl rfl) kp5 bare5
      have G5 : Gua P w s.heap (frs outer) H s2 s5 := Gua.step (E := []) (gua_inv I5 rfl hk e0.hok eX hk2 I2.os) os5 bare5 (fun b o _ e => kp5 b o e) fun b z => by cases z
      refine CG.outer S hrw.hd hrX.depth ((over_loop rfl rfl).trans over_func) rfl rfl (fun s₀ s6 U6 c => ?_) (CL.dealsL js r.reverse) _ s2 s5 ⟨[], rfl⟩ ?_ PI5 G5 ⟨hgen5, _, hgs5, rfl, ?_⟩
      · refine seg_leaf (.ok .next) ?_
        refine seg_execs_nil (env := envOfC "deals" dS s.heap.objs.size f cdv) (seg_execs_nil (env := envOfC "deals" dS s.heap.objs.size f cdv) ?_)
        exact seg_end (.ok (.ret .none)) (.inl ⟨.inl rfl, rfl, U6⟩)
      · rw [CL.dealsL_snoc]
        rfl
      · refine wake _ _ ⟨hrw.hd, ?_, ?_⟩ I5.ok.frames (fun _ _ e => e) os5 (allBare_setGen bare5 rfl) (by rw [setGen_size]; exact (Array.getElem?_eq_some_iff.mp hgs5).1)
        · have := hrX.dp
          rw [er]
          show (Aw.deeper (envOfC "deals" dS s.heap.objs.size f cdv)).depth + 3 * (2 * r.length + 4) + 5 < _
          omega
        · have := hrX.un
          rw [er]
          show (Aw.deeper (envOfC "deals" dS s.heap.objs.size f cdv)).units + 1 + 16 * (2 * r.length + 4) + 200 < _
          omega
end
end CG

/-! CG10: the first item of a generator; deal. -/
namespace CG
open PySem PySem.Spec PyProof.Rows L2 GenW Evl CE CW
section
variable {X : Cx} {pins : List (Addr × Obj)} {σ : L2.St} {H : Hp} {sc s0 s1 : Shared} {p : Addr} {d : List Nat} {xs : Array Value}
/-- behind a generator's wake: its item is tracked -/
theorem inv_item (I : Inv X pins σ H sc) (G : Gua X.prog X.w sc.heap (frs X.stack) (onlyT H) s0 s1) (k0 : ∀ b o, sc.heap.get? b = some o → s0.heap.get? b = some o) (os : s0.os = sc.os) (hp : sc.heap.objs.size ≤ p) (ht : IsTup s1.heap p xs) (hv : Vals (eN d) xs.toList) (hd : d.length ≤ 1000) :
    Inv X pins σ (upd H p (.tup (eN d))) s1 := by
  have nf : ∀ b, H b ≠ none → b ∉ frs X.stack := fun b h z => h (I.env0.frf b z)
  have hn : H p = none := I.hok.fresh hp
  have lt : ∀ b o, sc.heap.get? b = some o → b ≠ p := fun b o e z => by
    have := Heap.lt_size e
    rw [z] at this
    exact Nat.not_lt.mpr hp this
  have hkeep : ∀ b o, sc.heap.get? b = some o → onlyT H b = none → b ∉ frs X.stack → s1.heap.get? b = some o := fun b o e h1 h2 => G.keep b o o e h1 h2 (k0 b o e)
  refine I.call' (ch := []) (G.os.trans os) ⟨fun b o e h1 h2 _ => hkeep b o e (onlyT_none h1) h2, fun b o e h1 h2 _ => G.slot b o o e (onlyT_none h1) h2 (k0 b o e), fun b o e h1 _ => ?_, fun b o e _ => ?_, fun b ys e => ?_, fun b o u e => ?_, fun b ps e => ⟨#[], ?_⟩⟩ ?_ G.bare (fun b z => by cases z)
  · rw [upd_ne (lt b o e)]; exact h1
  · by_cases h1 : onlyT H b = none
    · by_cases h2 : b ∈ frs X.stack
      · obtain ⟨sl, q⟩ := G.slot b o o e h1 h2 (k0 b o e)
        exact ⟨_, q⟩
      · exact ⟨o, hkeep b o e h1 h2⟩
    · cases q : onlyT H b with
      | none => exact absurd q h1
      | some u => exact exists_of_ok onlyT_tk G.hok q
  · rw [upd_ne (ne_of_none e hn)]; exact e
  · rw [upd_ne (ne_of_none e hn)]; exact e
  · rw [upd_ne (ne_of_none e hn), e]; simp
  · have w0 : HOk X.prog X.w H s1.heap := ok_whole I.hok G.hok fun b o h1 h2 e => hkeep b o e h2 (nf b h1)
    intro b u e
    by_cases hb : b = p
    · subst hb
      rw [upd_same] at e
      cases e
      refine ⟨?_, xs.toList, hv, by simpa using ht⟩
      rw [List.length_map]
      exact Nat.le_trans hd (by decide)
    · rw [upd_ne hb] at e
      exact (w0 b u e).stay (fun _ _ _ z => z) (fun c z => by rw [upd_ne (ne_of_none z hn)]; exact z) fun c ys z => by rw [upd_ne (ne_of_none z hn)]; exact z
end
section
variable {X : Cx} {C f : Addr} {fd : FuncData} {p1 p2 p3 p4 p5 p6 p7 pos : Pos}
def tDeal (C : Addr) (js : List (List Nat)) (g : List Nat) : TS := fun D σ H => ∃ n vj vg, σ[0]? = some (some vj) ∧ σ[1]? = some (some vg) ∧ js.length ≤ 7 ∧ g.length ≤ 7 ∧ IsJ C n js vj H ∧ IsG g vg H ∧ ∃ d rest, CL.dealsL js g = d :: rest ∧ ∀ v H1, Ex H H1 → IsG d v H1 → D.rt v H1
theorem ps_deal {js : List (List Nat)} {g : List Nat} (hxe : X.xe = fun _ _ => False) (hN : X.N = (["jobs", "group", "dealt"] : List Str)) (hc : X.calm = true) (D : ∀ n, js.length ≤ 7 → g.length ≤ 7 → DOK X.prog X.w X.K X.mg X.base C f fd n js g) (hmg : X.mg "deals" = some (.ref f)) (hk : PySem.W.keepIn X.K (.ref f) = true) (hb : Binds X.K fd ["jobs", "group"] []) (hr : Room (dk 7 + 2) X.A)
    (hg : Gl X "deals") (hx0 : Vis X.env.scope "jobs") (hx1 : Vis X.env.scope "group") (hx2 : X.env.scope.names.lookup ("dealt" : Str) = some .local)
    (he : starEach [.Name "jobs" p1, .Name "group" p2] X.env = (false, eval (.Name "jobs" p1) X.env) :: starEach [.Name "group" p2] X.env := by rfl) (hpl : (backTo pos (starEach [.Name "group" p2] X.env)).any (·.1) = false := by rfl) :
    PS X (.For (.Name "dealt" p4) (.Call (.Name "deals" p3) [.Name "jobs" p1, .Name "group" p2] [] pos) [.Return (some (.Name "dealt" p5)) p6] [] p7) (tDeal C js g) := by
  refine ⟨fun pins s σ H Dn I h => ?_⟩
  obtain ⟨n, vj, vg, hj, hgg, hjl, hgl, h1, h2, d, rest, hd, kk⟩ := h
  have hnd : X.N.Nodup := by rw [hN]; decide +kernel
  have i2 : X.N[2]? = some ("dealt" : Str) := by rw [hN]; rfl
  refine wpAny_For (wpAny_mono (run_deals (i := 0) (j := 1) (gz := 0) (D n hjl hgl) hmg hk hb (hr.mono (by show 2 * g.length + 4 ≤ 2 * 7 + 4 + 2; omega)) hg (pa_cons (pe_var (by rw [hN]; rfl) hx0) (pa_cons (pe_var (by rw [hN]; rfl) hx1) pa_nil)) hj hgg h1 h2 I (Nat.zero_le _)) (fun u s5 q => ?_) fun _ _ z => z)
  obtain ⟨H1, sc, I1, e1, _, ac, gc, c, rfl, ha1, hgen5, hg5, hgs5, os5, bare5, lim5, kp5, wake⟩ := q
  refine wpAny_pyIter_gen hgen5 ?_
  refine codeAny_forLoop_any (fun _ s' => s' = s5) (fun _ s' hs => ?_) 0 rfl
  subst hs
  have hh : X.A.handled = none := I.ok.hd hc
  have hdp : X.A.depth < recursionLimit := by have := hr.dp; omega
  refine rdy_next (G := ⟨sc.heap, frs X.stack, onlyT H1, ac, gc, CL.dealsL js g⟩) (m := (CL.dealsL js g).length) hh lim5 hdp bare5 ⟨hgen5, _, hgs5, rfl, wake _ _ ⟨hh, ?_, ?_⟩ I1.ok.frames (fun _ _ e => e) os5 (allBare_setGen bare5 rfl) (by rw [setGen_size]; exact (Array.getElem?_eq_some_iff.mp hgs5).1)⟩ (fun v s₁ pre it post q1 q2 item U _ => ?_) (fun s₁ q _ => ?_)
  · have := hr.dp
    show X.A.depth + 3 * (2 * g.length + 4) + 5 < _
    have : 3 * (dk 7 + 2) = 60 := rfl
    omega
  · have := hr.un
    show X.A.units + 1 + 16 * (2 * g.length + 4) + 200 < _
    have : 16 * (dk 7 + 2) = 320 := rfl
    omega
  · have hpre : pre = [] := by
      have := congrArg List.length q1
      have q1l : (CL.dealsL js g).length = (pre ++ it :: post).length := this
      rw [List.length_append, List.length_cons] at q1l
      have : pre.length = 0 := by omega
      exact List.length_eq_zero_iff.mp this
    subst hpre
    have q1' : CL.dealsL js g = it :: post := q1
    rw [hd] at q1'
    obtain ⟨rfl, rfl⟩ := List.cons.inj q1'
    obtain ⟨p, xs, rfl, hpB, htp, hv⟩ := item
    have hdl : d.length ≤ 1000 := by
      rw [CL.dealsL_len js g d (by rw [hd]; simp)]
      omega
    have I6 := inv_item I1 U kp5 os5 hpB htp hv hdl
    refine wpAny_pure ?_
    refine wpAny_assign_Name (store_ok (v := .ref p) I6 hnd i2 (.inl hx2) rfl (fun s' I7 => ?_) (.inr hx2))
    refine wpAny_mono ((pss_one (ps_ret (pe_var (X := X) (i := 2) i2 (.inl hx2)))).run pins s' _ _ { nx := fun _ _ => False, rt := Dn.rt } I7 ⟨.ref p, ?_, kk _ _ (e1.trans (Ex.new (I1.hok.fresh hpB))) ⟨p, rfl, upd_same⟩⟩) (fun fl s3 q => ?_) fun e s3 z => ?_
    · have hl : 2 < σ.length := by rw [I.len, hN]; decide
      rw [List.getElem?_set_self hl]
    · cases fl with
      | next => obtain ⟨_, _, _, z⟩ := q; exact z.elim
      | cont => obtain ⟨_, _, _, z⟩ := q; exact z.elim
      | brk => obtain ⟨_, _, _, z⟩ := q; exact z.elim
      | ret v => exact q
    · rw [hxe] at z; exact z.elim
  · rw [hd, List.length_cons] at q; omega
end
end CG

/-! CG11: deal. -/
namespace CG
open PySem PySem.Spec PyProof.Rows L2 GenW Evl CE CW
theorem pss_dead {X : Cx} {st : List Stmt} : PSs X st (fun _ _ _ => False) := ⟨fun _ _ _ _ _ _ h => h.elim⟩
section
variable {P : Program} {w : World} {K : PySem.W.Frag} {mg : Str → Option Value} {base : Heap} {C : Addr}
def spDeal (C : Addr) : Sp := PrF (fun a : Nat × List (List Nat) × List Nat => [IsJ C a.1 a.2.1, IsG a.2.2]) (fun a => a.2.1.length ≤ 7 ∧ a.2.2.length ≤ 7 ∧ CL.dealsL a.2.1 a.2.2 ≠ []) (fun a => IsG ((CL.dealsL a.2.1 a.2.2).headD []))
theorem scDeal : FnScope ["jobs", "group", "dealt"] ["jobs", "group"] (defScope sDeal) := ⟨rfl, rfl, rfl, by decide +kernel, rfl, by decide +kernel, by decide +kernel⟩
theorem ok_deal {f fg : Addr} {fd fdg : FuncData} (F : Fun K "deal" "deal" sDeal f fd) (G : Fun K "deals" "deals" sDeals fg fdg) (hmg : mg "deals" = some (.ref fg)) (hbd : Binds K fdg ["jobs", "group"] []) (T : TJ K mg C) (M : CalM P w K mg base 2 C "open_to" ["self", "group"] (spOpenTo C)) :
    FnOk P w K mg base CX0 21 f fd ["jobs", "group"] (spDeal C) := by
  refine F.ok (k := 20) scDeal (prF_len fun _ => rfl) (fun cdv A outer s H vs Q E hr h => ?_)
  obtain ⟨⟨n, js, g⟩, ⟨hj, hg, hne⟩, hi, k⟩ := h
  obtain ⟨v1, v2, rfl, h1, h2⟩ := allP2 hi
  refine ⟨_, pss_cons (ps_deal (C := C) (f := fg) (fd := fdg) (js := js) (g := g) rfl rfl rfl (fun n hj hg => ?_) hmg G.kp hbd hr (by rfl) (.inl (by rfl)) (.inl (by rfl)) (by rfl)) pss_dead, ?_⟩
  · have := deals_ok (P := P) (w := w) (base := base) G hmg hbd T M (n := n) hj g.reverse (by rw [List.length_reverse]; exact hg)
    rw [List.reverse_reverse] at this
    exact this
  · cases hd : CL.dealsL js g with
    | nil => exact absurd hd hne
    | cons d rest =>
      refine ⟨n, v1, v2, rfl, rfl, hj, hg, h1, h2, d, rest, hd, fun v H1 e r => k v H1 e ?_⟩
      show IsG ((CL.dealsL js g).headD []) v H1
      rw [hd]
      exact r
end
end CG

/-! CG12: what deals hands out are the deals. -/
namespace CL
theorem mem_open1 {js : List (List Nat)} {p j : Nat} : j ∈ openM js [p] ↔ j < js.length ∧ E js p j = true := by
  unfold openM E
  simp
theorem deal_snoc {js : List (List Nat)} {h d : List Nat} {p j : Nat} : Deal js (h ++ [p]) (d ++ [j]) ↔ Deal js h d ∧ j < js.length ∧ E js p j = true ∧ j ∉ d := by
  constructor
  · intro D
    have hl : d.length = h.length := by have := D.len; simpa using this
    have nd := List.nodup_append.mp D.nd
    refine ⟨⟨hl, nd.1, fun i q k h1 h2 => D.ok i q k ?_ ?_⟩, ?_⟩
    · rw [List.getElem?_append_left (List.getElem?_eq_some_iff.mp h1).1]; exact h1
    · rw [List.getElem?_append_left (List.getElem?_eq_some_iff.mp h2).1]; exact h2
    · have := D.ok h.length p j (by simp) (by rw [← hl]; simp)
      exact ⟨this.1, this.2, fun z => nd.2.2 j z j (by simp) rfl⟩
  · rintro ⟨D, h1, h2, h3⟩
    have hl := D.len
    refine ⟨by simp [hl], List.nodup_append.mpr ⟨D.nd, by simp, fun a ha b hb e => h3 (by rw [List.mem_singleton.mp hb] at e; rw [← e]; exact ha)⟩, fun i q k e1 e2 => ?_⟩
    by_cases hi : i < h.length
    · rw [List.getElem?_append_left hi] at e1
      rw [List.getElem?_append_left (by omega)] at e2
      exact D.ok i q k e1 e2
    · have hi2 : i < (h ++ [p]).length := (List.getElem?_eq_some_iff.mp e1).1
      rw [List.length_append] at hi2
      have hi3 : i = h.length := by have : [p].length = 1 := rfl; omega
      subst hi3
      rw [List.getElem?_append_right (Nat.le_refl _)] at e1
      rw [List.getElem?_append_right (by omega)] at e2
      rw [hl, Nat.sub_self] at e2
      rw [Nat.sub_self] at e1
      cases e1
      cases e2
      exact ⟨h1, h2⟩
theorem mem_deals {js : List (List Nat)} : ∀ (r d : List Nat), d ∈ dealsL js r.reverse ↔ Deal js r.reverse d
  | [], d => by
    show d ∈ [[]] ↔ _
    rw [List.mem_singleton]
    constructor
    · rintro rfl
      exact ⟨rfl, List.nodup_nil, fun i p j h => by cases h⟩
    · intro D
      exact List.length_eq_zero_iff.mp D.len
  | p :: r, d => by
    rw [List.reverse_cons, dealsL_snoc, List.mem_flatMap]
    constructor
    · rintro ⟨d0, h0, h1⟩
      obtain ⟨j, h2, rfl⟩ := List.mem_map.mp h1
      obtain ⟨h3, h4⟩ := List.mem_filter.mp h2
      obtain ⟨h5, h6⟩ := mem_open1.mp h3
      exact deal_snoc.mpr ⟨(mem_deals r d0).mp h0, h5, h6, by simpa using h4⟩
    · intro D
      have hl : d.length = r.reverse.length + 1 := by have := D.len; simpa using this
      obtain ⟨d0, j, rfl⟩ : ∃ d0 j, d = d0 ++ [j] := by
        have hne : d ≠ [] := fun z => by rw [z] at hl; simp at hl
        exact ⟨d.dropLast, d.getLast hne, (List.dropLast_concat_getLast hne).symm⟩
      obtain ⟨h1, h2, h3, h4⟩ := deal_snoc.mp D
      exact ⟨d0, (mem_deals r d0).mpr h1, List.mem_map.mpr ⟨j, List.mem_filter.mpr ⟨mem_open1.mpr ⟨h2, h3⟩, by simpa using h4⟩, rfl⟩⟩
theorem deals_iff {js : List (List Nat)} {g d : List Nat} : d ∈ dealsL js g ↔ Deal js g d := by
  have := mem_deals (js := js) g.reverse d
  rw [List.reverse_reverse] at this
  exact this
def dealM (js : List (List Nat)) (g : List Nat) : List Nat := (dealsL js g).headD []
theorem deals_ne {n : Nat} {js : List (List Nat)} {g : List Nat} (hg : Grp n g) (c : canF js g = true) : dealsL js g ≠ [] := fun z => by
  obtain ⟨d, hd⟩ := deal_of hg ((can_iff hg).mp c)
  have := deals_iff.mpr hd
  rw [z] at this
  cases this
theorem deal_ok {n : Nat} {js : List (List Nat)} {g : List Nat} (hg : Grp n g) (c : canF js g = true) : Deal js g (dealM js g) := by
  have h := deals_ne hg c
  refine deals_iff.mp ?_
  unfold dealM
  cases e : dealsL js g with
  | nil => exact absurd e h
  | cons d r => simp
end CL

/-! CZ1: zip of two tuples as what dict() takes: its tuple is still out when the next one is asked for. -/
namespace CZ
open PySem
section
variable {prog : Program} {w : World} {A : Around} {E : Value → Shared → Prop} {s : Shared} {z TI TO i1 i2 T : Addr} {fp1 fp2 : List Addr} {n i : Nat} {P1 P2 : Nat → Value → Prop} {St1 St2 : Nat → Heap → Prop} {f : Bool} {oT : Obj}
theorem held_item {Q : Value → Shared → Prop} (S : ZipSep2 z TI TO i1 i2 fp1 fp2) (D1 : Draws prog w A i1 fp1 n P1 St1) (D2 : Draws prog w A i2 fp2 n P2 St2)
    (hz : IsZipHeld s.heap z TI TO T f) (hT : s.heap.get? T = some oT) (hTI : IsTupOf2 s.heap TI (.ref i1) (.ref i2)) (st1 : St1 i s.heap) (st2 : St2 i s.heap) (hi : i < n)
    (hQ : ∀ x y h' tk, P1 i x → P2 i y → IsZipHeld h' z TI TO T true → St1 (i + 1) h' → St2 (i + 1) h' → IsTupOf2 h' s.heap.objs.size x y →
      (∀ c o, c ≠ z → c ≠ i1 → c ≠ i2 → s.heap.get? c = some o → h'.get? c = some o) → Q (.ref s.heap.objs.size) { s with heap := h', toks := tk }) :
    wpAny (model prog w) A (Builtin.«zip.__next__» ⟨[.ref z], []⟩) (fun fin s' => ∃ v, fin = .done (.ret v) ∧ Q v s') E s := by
  obtain ⟨hp, g, d, tk0, os⟩ := s
  show wpAny _ _ (field (.ref z) 2 >>= _) _ _ _
  refine wpAny_bind (wpAny_field hz rfl (x := .bool false) rfl ?_)
  show wpAny _ _ (field (.ref z) 3 >>= _) _ _ _
  refine wpAny_bind (wpAny_field hz rfl (x := .ref TI) rfl (wpAny_bind (wpAny_seqItems hTI rfl ?_)))
  show wpAny _ _ (Builtin.SmallTypes.ownedTupleIsFree (.ref z) >>= _) _ _ _
  refine wpAny_bind (wpAny_tupleHeld_zip hz hT fun h0 hz0 hs0 => ?_)
  replace hs0 : Heap.SameBut z hp h0 := hs0
  simp only [Bool.false_eq_true, if_false]
  refine wpAny_bind ?_
  rw [← Array.forIn_toList]
  simp only [List.forIn_cons, List.forIn_nil]
  refine wpAny_bind (wpAny_bind (wpAny_holding ?_))
  show wpAny _ _ (Builtin.SmallTypes.nextOf (.ref i1) >>= _) _ _ ⟨h0, g, d, tk0, os⟩
  refine wpAny_bind (D1.item i _ _ _ hi (D1.over st1 hs0 S.zf1) fun x h1 tk1 hx sn1 hs1 => wpAny_pure (wpAny_pure ?_))
  replace hs1 : Heap.SameBut i1 h0 h1 := hs1
  refine wpAny_bind (wpAny_bind (wpAny_holding ?_))
  show wpAny _ _ (Builtin.SmallTypes.nextOf (.ref i2) >>= _) _ _ ⟨h1, g, d, tk1, os⟩
  refine wpAny_bind (D2.item i _ _ _ hi (D2.over (D2.over st2 hs0 S.zf2) hs1 S.sep1_2) fun y h2 tk2 hy sn2 hs2 => wpAny_pure (wpAny_pure (wpAny_pure ?_)))
  replace hs2 : Heap.SameBut i2 h1 h2 := hs2
  show wpAny _ _ (newTuple [x, y] >>= _) _ _ _
  refine wpAny_bind (wpAny_newTuple (wpAny_pure ⟨_, rfl, ?_⟩))
  have esz : h2.objs.size = hp.objs.size := by rw [hs2.1, hs1.1, hs0.1]
  have kp : ∀ c o, c ≠ z → c ≠ i1 → c ≠ i2 → hp.get? c = some o → h2.get? c = some o := fun c o a b e q => hs2.extBut _ _ e (hs1.extBut _ _ b (hs0.extBut _ _ a q))
  have pz : IsZipHeld h2 z TI TO T true := hs2.extBut _ _ S.zi2 (hs1.extBut _ _ S.zi1 hz0)
  show Q (.ref h2.objs.size) _
  rw [esz]
  refine hQ x y _ tk2 hx hy (Heap.get?_push_of_some _ pz) (D1.frame _ _ _ (D1.over sn1 hs2 S.sep2_1) fun b _ o e => Heap.get?_push_of_some _ e) (D2.frame _ _ _ sn2 fun b _ o e => Heap.get?_push_of_some _ e) ?_ fun c o a b e q => Heap.get?_push_of_some _ (kp c o a b e q)
  show IsTupOf2 _ hp.objs.size x y
  rw [← esz]
  exact Heap.get?_push_size _ rfl
theorem held_end {Q : PySem.Fin → Shared → Prop} (S : ZipSep2 z TI TO i1 i2 fp1 fp2) (D1 : Draws prog w A i1 fp1 n P1 St1)
    (hz : IsZipHeld s.heap z TI TO T f) (hT : s.heap.get? T = some oT) (hTI : IsTupOf2 s.heap TI (.ref i1) (.ref i2)) (st1 : St1 n s.heap)
    (hE : ∀ h' e, (∀ c o, c ≠ z → c ≠ i1 → s.heap.get? c = some o → h'.get? c = some o) → (∃ o, h'.get? e = some o ∧ o.cls = .type "StopIteration") → E (.ref e) { s with heap := h' }) :
    wpAny (model prog w) A (Builtin.«zip.__next__» ⟨[.ref z], []⟩) Q E s := by
  obtain ⟨hp, g, d, tk0, os⟩ := s
  show wpAny _ _ (field (.ref z) 2 >>= _) _ _ _
  refine wpAny_bind (wpAny_field hz rfl (x := .bool false) rfl ?_)
  show wpAny _ _ (field (.ref z) 3 >>= _) _ _ _
  refine wpAny_bind (wpAny_field hz rfl (x := .ref TI) rfl (wpAny_bind (wpAny_seqItems hTI rfl ?_)))
  show wpAny _ _ (Builtin.SmallTypes.ownedTupleIsFree (.ref z) >>= _) _ _ _
  refine wpAny_bind (wpAny_tupleHeld_zip hz hT fun h0 hz0 hs0 => ?_)
  replace hs0 : Heap.SameBut z hp h0 := hs0
  simp only [Bool.false_eq_true, if_false]
  refine wpAny_bind ?_
  rw [← Array.forIn_toList]
  simp only [List.forIn_cons, List.forIn_nil]
  refine wpAny_bind (wpAny_bind (wpAny_holding ?_))
  show wpAny _ _ (Builtin.SmallTypes.nextOf (.ref i1) >>= _) _ _ ⟨h0, g, d, tk0, os⟩
  exact wpAny_bind (D1.done _ _ _ (D1.over st1 hs0 S.zf1) fun h1 e hk he => hE h1 e (fun c o a b q => hk _ _ b (hs0.extBut _ _ a q)) he)
theorem next_held_item {Q : Option Value → Shared → Prop} (S : ZipSep2 z TI TO i1 i2 fp1 fp2) (D1 : Draws prog w A.in1 i1 fp1 n P1 St1) (D2 : Draws prog w A.in1 i2 fp2 n P2 St2)
    (hz : IsZipHeld s.heap z TI TO T f) (hT : s.heap.get? T = some oT) (hTI : IsTupOf2 s.heap TI (.ref i1) (.ref i2)) (st1 : St1 i s.heap) (st2 : St2 i s.heap) (hi : i < n)
    (hQ : ∀ x y h' tk, P1 i x → P2 i y → IsZipHeld h' z TI TO T true → St1 (i + 1) h' → St2 (i + 1) h' → IsTupOf2 h' s.heap.objs.size x y →
      (∀ c o, c ≠ z → c ≠ i1 → c ≠ i2 → s.heap.get? c = some o → h'.get? c = some o) → Q (some (.ref s.heap.objs.size)) { s with heap := h', toks := tk }) :
    wpAny (model prog w) A (pyNext (.ref z)) Q E s := by
  have ty : s.TypeIs (.ref z) "zip" := ⟨_, hz, rfl⟩
  unfold pyNext
  exact wpAny_bind (wpAny_attempt (wpAny_callSpecial?_slot (name := Str.ofString "__next__") ty F.slot_zip_next (wpAny_call_entry F.slot_zip_next ty F.entry_zip_next
    (held_item S D1 D2 hz hT hTI st1 st2 hi fun x y h' tk a b c d e k l => wpAny_pure (hQ x y h' tk a b c d e k l)) (F.args_zip_next_1 _))))
theorem next_held_end {Q : Option Value → Shared → Prop} (S : ZipSep2 z TI TO i1 i2 fp1 fp2) (D1 : Draws prog w A.in1 i1 fp1 n P1 St1)
    (hz : IsZipHeld s.heap z TI TO T f) (hT : s.heap.get? T = some oT) (hTI : IsTupOf2 s.heap TI (.ref i1) (.ref i2)) (st1 : St1 n s.heap)
    (hQ : ∀ h', (∀ c o, c ≠ z → c ≠ i1 → s.heap.get? c = some o → h'.get? c = some o) → Q none { s with heap := h' }) : wpAny (model prog w) A (pyNext (.ref z)) Q E s := by
  have ty : s.TypeIs (.ref z) "zip" := ⟨_, hz, rfl⟩
  unfold pyNext
  refine wpAny_bind (wpAny_attempt (wpAny_callSpecial?_slot (name := Str.ofString "__next__") ty F.slot_zip_next (wpAny_call_entry F.slot_zip_next ty F.entry_zip_next
    (held_end S D1 hz hT hTI st1 fun h' e hk he => ?_) (F.args_zip_next_1 _))))
  obtain ⟨o, ho, hc⟩ := he
  exact wpAny_bind (wpAny_isInstance (T := "StopIteration") (b := true) ⟨o, ho, hc⟩ isSubtype_stop (wpAny_pure (hQ _ hk)))
end
end CZ

/-! CZ2: dict(zip(t, u)) of two tuples. -/
namespace CZ
open PySem
/-- zip's five cells and its two tuples lie apart -/
structure Ap (z TI TO i1 i2 l1 l2 : Addr) : Prop where
  S : ZipSep2 z TI TO i1 i2 [i1, l1] [i2, l2]
  n1 : l1 ≠ i1
  n2 : l2 ≠ i2
section
variable {prog : Program} {w : World}
theorem zipArg {z TI TO i1 i2 l1 l2 : Addr} (D : Ap z TI TO i1 i2 l1 l2) (xs ys : Array Value) (hsz : ys.size = xs.size) :
    PairArg prog w "zip" z [z, TI, TO, i1, i2, l1, l2] [z, TO, i1, i2] xs.size (fun i k v => xs[i]? = some k ∧ ys[i]? = some v)
      (fun h => IsZip h z TI TO .none ∧ IsTupOf2 h TI (.ref i1) (.ref i2) ∧ (∃ a b, IsTupOf2 h TO a b) ∧ (h.IsTupleIter i1 l1 0 ∧ h.IsTuple l1 xs) ∧ h.IsTupleIter i2 l2 0 ∧ h.IsTuple l2 ys) where
  type := fun s ok => ⟨_, ok.1, rfl⟩
  notDict := by decide
  keep := fun h h' ⟨a, b, ⟨c, d, e⟩, f, g⟩ hk => ⟨hk _ _ a, hk _ _ b, ⟨c, d, hk _ _ e⟩, ⟨f.1.at fun o e => hk _ o e, f.2.at fun o e => hk _ o e⟩, g.1.at fun o e => hk _ o e, g.2.at fun o e => hk _ o e⟩
  there := fun h ⟨a, b, ⟨c, d, e⟩, ⟨⟨o1, q1, _⟩, o2, q2, _⟩, ⟨o3, q3, _⟩, o4, q4, _⟩ x hx => by
    simp only [List.mem_cons, List.not_mem_nil, or_false] at hx
    rcases hx with rfl | rfl | rfl | rfl | rfl | rfl | rfl
    · exact ⟨_, a⟩
    · exact ⟨_, b⟩
    · exact ⟨_, e⟩
    · exact ⟨_, q1⟩
    · exact ⟨_, q3⟩
    · exact ⟨_, q2⟩
    · exact ⟨_, q4⟩
  sub := fun x hx => by
    simp only [List.mem_cons, List.not_mem_nil, or_false] at hx ⊢
    rcases hx with rfl | rfl | rfl | rfl <;> simp
  noKeys := fun A s Q E hA ok h => getAttrOr_miss_zip ok.1 rfl rfl rfl zip_no_keys (by decide +kernel) hA h
  iter := fun A s d Q E hA ok hd hdf h => by
    obtain ⟨hz, hTI, hTO, st1, st2⟩ := ok
    simp only [List.mem_cons, List.not_mem_nil, or_false, not_or] at hdf
    obtain ⟨dz, dTI, dTO, d1, d2, dl1, dl2⟩ := hdf
    have D1 : Draws prog w A.in1 i1 [i1, l1] xs.size (fun i v => xs[i]? = some v) (fun i h => h.IsTupleIter i1 l1 i ∧ h.IsTuple l1 xs) := Draws.tuple (A := A.in1) hA i1 l1 D.n1 xs
    have D2 : Draws prog w A.in1 i2 [i2, l2] xs.size (fun i v => ys[i]? = some v) (fun i h => h.IsTupleIter i2 l2 i ∧ h.IsTuple l2 ys) := by
      have := Draws.tuple (prog := prog) (w := w) (A := A.in1) hA i2 l2 D.n2 ys
      rw [hsz] at this
      exact this
    refine wpAny_pyIter_zip hz (h z [z, TO, i1, i2] (fun i h => IsTupOf2 h TI (.ref i1) (.ref i2) ∧ (h.IsTupleIter i1 l1 i ∧ h.IsTuple l1 xs) ∧ (h.IsTupleIter i2 l2 i ∧ h.IsTuple l2 ys) ∧
      ((IsZip h z TI TO .none ∧ ∃ a b, IsTupOf2 h TO a b) ∨ ∃ T f oT, IsZipHeld h z TI TO T f ∧ h.get? T = some oT ∧ T ≠ z ∧ T ≠ i1 ∧ T ≠ i2 ∧ T ≠ d)) s.heap s.toks ?_
      ⟨hTI, st1, st2, .inl ⟨hz, hTO⟩⟩ (fun _ _ e => e) fun x hx => .inl hx)
    refine ⟨fun hm => ?_, fun i h₁ h₂ st hk => ?_, fun i s₁ Q₁ E₁ hi st hds hQ => ?_, fun s₁ Q₁ E₁ st hQ => ?_⟩
    · simp only [List.mem_cons, List.not_mem_nil, or_false] at hm
      rcases hm with e | e | e | e
      · exact dz e
      · exact dTO e
      · exact d1 e
      · exact d2 e
    · obtain ⟨a, b, c, q⟩ := st
      refine ⟨hk _ _ (Ne.symm dTI) a, ⟨b.1.at fun o e => hk _ o (Ne.symm d1) e, b.2.at fun o e => hk _ o (Ne.symm dl1) e⟩, ⟨c.1.at fun o e => hk _ o (Ne.symm d2) e, c.2.at fun o e => hk _ o (Ne.symm dl2) e⟩, ?_⟩
      rcases q with ⟨q, u, v, r⟩ | ⟨T, f, oT, q, r, r1, r2, r3, r4⟩
      · exact .inl ⟨hk _ _ (Ne.symm dz) q, u, v, hk _ _ (Ne.symm dTO) r⟩
      · exact .inr ⟨T, f, oT, hk _ _ (Ne.symm dz) q, hk _ _ r4 r, r1, r2, r3, r4⟩
    · obtain ⟨a, b, c, q⟩ := st
      have lt : ∀ {x o}, s₁.heap.get? x = some o → s₁.heap.objs.size ≠ x := fun e => Nat.ne_of_gt (Heap.lt_size e)
      have e1 : s₁.heap.objs.size ≠ i1 := let ⟨⟨_, e, _⟩, _⟩ := b; lt e
      have e2 : s₁.heap.objs.size ≠ i2 := let ⟨⟨_, e, _⟩, _⟩ := c; lt e
      rcases q with ⟨q, u, v, r⟩ | ⟨T, f, oT, q, r, r1, r2, r3, r4⟩
      · refine wpAny_pyNext_zipD2_item D.S D1 D2 q a r b c hi hi fun x y h' tk hx hy p1 p2 p3 p4 p5 p6 hk => ?_
        refine hQ _ _ _ h' tk ⟨hx, hy⟩ (.inl ⟨_, p5, rfl, _, rfl⟩) ⟨hk _ _ D.S.TIz D.S.TITO D.S.TIi1 D.S.TIi2 a, p3, p4, .inr ⟨_, false, _, p1, p5, lt q, e1, e2, Nat.ne_of_gt hds⟩⟩ fun x o hx e => ?_
        simp only [List.mem_cons, List.not_mem_nil, or_false, not_or] at hx
        exact hk x o hx.1 hx.2.1 hx.2.2.1 hx.2.2.2 e
      · refine next_held_item D.S D1 D2 q r a b c hi fun x y h' tk hx hy p1 p3 p4 p5 hk => ?_
        refine hQ _ _ _ h' tk ⟨hx, hy⟩ (.inl ⟨_, p5, rfl, _, rfl⟩) ⟨hk _ _ D.S.TIz D.S.TIi1 D.S.TIi2 a, p3, p4, .inr ⟨T, true, oT, p1, hk _ _ r1 r2 r3 r, r1, r2, r3, r4⟩⟩ fun x o hx e => ?_
        simp only [List.mem_cons, List.not_mem_nil, or_false, not_or] at hx
        exact hk x o hx.1 hx.2.2.1 hx.2.2.2 e
    · obtain ⟨a, b, c, q⟩ := st
      rcases q with ⟨q, u, v, r⟩ | ⟨T, f, oT, q, r, r1, r2, r3, r4⟩
      · refine wpAny_pyNext_zipD2_end D.S D1 D2 q a r b c (Nat.le_refl _) (Nat.le_refl _) (.inl rfl) fun h' tk hk => hQ h' tk fun x o hx e => ?_
        simp only [List.mem_cons, List.not_mem_nil, or_false, not_or] at hx
        exact hk x o hx.1 hx.2.1 hx.2.2.1 hx.2.2.2 e
      · refine next_held_end D.S D1 q r a b fun h' hk => hQ h' s₁.toks fun x o hx e => ?_
        simp only [List.mem_cons, List.not_mem_nil, or_false, not_or] at hx
        exact hk x o hx.1 hx.2.2.1 e
end
end CZ

/-! CZ3: the rule for dict(zip(t, u)). -/
namespace CZ
open PySem PySem.Spec PyProof.Rows L2
theorem kv_zip : ∀ {ks : List Key} {ys : List V} {us ws : List Value}, Vals (ks.map kV) us → Vals ys ws → ks.length = ys.length → KV (ks.zip ys) (ks.zip ws)
  | [], [], _, _, _, _, _ => .nil
  | k :: ks, y :: ys, _ :: _, _ :: _, .cons _ a, .cons r b, h => .cons ⟨rfl, r⟩ (kv_zip a b (by simpa using h))
theorem pairs_have {P : Program} {w : World} : ∀ {ks : List Key} {us ws : List Value}, Vals (ks.map kV) us → us.length = ws.length → ∀ (i : Nat) (key v : Value), us[i]? = some key → ws[i]? = some v → ∃ k, (ks.zip ws)[i]? = some (k, v) ∧ (mixKind P w).is k key = true
  | [], _, _, .nil, _, i, key, v, h, _ => by simp at h
  | k :: ks, u :: us, z :: ws, .cons r a, hl, i, key, v, h1, h2 => by
    cases i with
    | zero =>
      simp only [List.getElem?_cons_zero, Option.some.injEq] at h1 h2
      subst h1 h2
      exact ⟨k, rfl, kV_is r⟩
    | succ i => exact pairs_have (P := P) (w := w) a (by simpa using hl) i key v (by simpa using h1) (by simpa using h2)
  | k :: ks, u :: us, [], .cons r a, hl, i, key, v, h1, h2 => by simp at h2
theorem isTup_at {h h' : Heap} {p : Addr} {xs : Array Value} (x : IsTup h p xs) (k : ∀ c o, h.get? c = some o → h'.get? c = some o) : h'.IsTuple p xs := let ⟨o, ho, r⟩ := x; ⟨o, k _ o ho, r⟩
def tDz (t : TA) : TE := fun σ H Q => t σ H fun vs H1 => ∃ (a b : Addr) (ks : List Key) (ys : List V), vs = [.ref a, .ref b] ∧ H1 a = some (.tup (ks.map kV)) ∧ H1 b = some (.tup ys) ∧ ks.length = ys.length ∧ ks.Nodup ∧ ∀ p, H1 p = none → Q (.ref p) (upd H1 p (.dK (ks.zip ys)))
section
variable {X : Cx} {e1 e2 : Expr} {t : TA} {p p2 pos pos2 : Pos}
theorem pe_dz (ha : PA X [e1, e2] t) (hc : X.calm = true) (hgd : Gl X "dict") (hgz : Gl X "zip") (hmd : X.mg "dict" = none) (hmz : X.mg "zip" = none)
    (he : starEach [.Call (.Name "zip" p2) [e1, e2] [] pos2] X.env = (false, eval (.Call (.Name "zip" p2) [e1, e2] [] pos2) X.env) :: starEach [] X.env := by rfl)
    (he2 : starEach [e1, e2] X.env = (false, eval e1 X.env) :: starEach [e2] X.env := by rfl) (hpl : (backTo pos2 (starEach [e2] X.env)).any (·.1) = false := by rfl) :
    PE X (.Call (.Name "dict" p) [.Call (.Name "zip" p2) [e1, e2] [] pos2] [] pos) (tDz t) := by
  refine ⟨fun pins s σ H Q I hw => ?_⟩
  refine wpAny_Call_Name_kw (ld_blt I hgd hmd (u := .type "dict") (by rfl) ?_)
  refine PyProof.Rows.callWith_type1 ?_ he rfl
  rw [he]
  show wpAny _ _ (spliced ((false, eval (.Call (.Name "zip" p2) [e1, e2] [] pos2) X.env) :: backTo pos (starEach [] X.env))) _ _ s
  refine Calls.spliced_cons ?_
  refine wpAny_Call_Name_kw (ld_blt I hgz hmz (u := .type "zip") (by rfl) ?_)
  refine PyProof.Rows.callWith_type1 (thn (ha.run pos2 pins s σ H _ I hw) fun us s1 q => ?_) he2 hpl
  obtain ⟨vs, H1, I1, r1, a, b, ks, ys, rfl, h1, h2, hl, nd, q⟩ := q
  obtain ⟨u1, u2, rfl, x1, x2⟩ := vals2 r1
  cases x1
  cases x2
  obtain ⟨xl, rx, tx⟩ := (I1.hok a _ h1).2
  obtain ⟨yl, ry, ty⟩ := (I1.hok b _ h2).2
  have la : a < s1.heap.objs.size := I1.hok.lt h1
  have lb : b < s1.heap.objs.size := I1.hok.lt h2
  have hsz : yl.toArray.size = xl.toArray.size := by
    have a1 := rx.length
    have a2 := ry.length
    rw [List.length_map] at a1
    simp only [List.size_toArray]
    omega
  refine zip_begins2 (begins_tuple a xl.toArray) (begins_tuple b yl.toArray) tx ty fun h' hz hTI hTO g1 g2 hs5 hk => ?_
  refine Calls.spliced_nil ?_
  have off : ∀ (n x : Nat), x < s1.heap.objs.size → s1.heap.objs.size + n ≠ x := fun n x h => by omega
  have ne : ∀ (m n : Nat), m ≠ n → s1.heap.objs.size + m ≠ s1.heap.objs.size + n := fun m n h => by omega
  have ne0 : ∀ (m : Nat), m ≠ 0 → s1.heap.objs.size + m ≠ s1.heap.objs.size := fun m h => by omega
  have D : Ap (s1.heap.objs.size + 4) (s1.heap.objs.size + 2) (s1.heap.objs.size + 3) s1.heap.objs.size (s1.heap.objs.size + 1) a b := by
    refine ⟨⟨ne 2 4 (by decide), ne 3 4 (by decide), ne 2 3 (by decide), ne0 2 (by decide), by simp, ?_, ?_, ne 2 1 (by decide), by simp, ?_, ?_, ?_, ?_⟩, Ne.symm (off 0 a la), Ne.symm (off 1 b lb)⟩
    all_goals simp only [List.mem_cons, List.not_mem_nil, or_false, not_or]
    · exact ⟨ne0 4 (by decide), off 4 a la⟩
    · exact ⟨ne0 3 (by decide), off 3 a la⟩
    · exact ⟨ne 4 1 (by decide), off 4 b lb⟩
    · exact ⟨ne 3 1 (by decide), off 3 b lb⟩
    · exact ⟨Ne.symm (ne0 1 (by decide)), off 0 b lb⟩
    · exact ⟨ne0 1 (by decide), off 1 a la⟩
  refine call_dict_pairs (knd := mixKind X.prog X.w) (kvs := ks.zip yl) (zipArg D xl.toArray yl.toArray hsz) (I1.ok.hd hc) ?_ ?_ ?_ fun h2 tk hd hk2 => ?_
  · exact ⟨hz, hTI, ⟨_, _, hTO⟩, ⟨⟨_, g1, rfl, rfl⟩, isTup_at tx hk⟩, ⟨_, g2, rfl, rfl⟩, isTup_at ty hk⟩
  · have a1 := rx.length
    have a2 := ry.length
    rw [List.length_map] at a1
    refine ⟨by rw [List.length_zip, List.size_toArray]; omega, fun i key v ⟨y1, y2⟩ => pairs_have rx (by omega) i key v (by simpa using y1) (by simpa using y2)⟩
  · have a1 := rx.length
    have := (I1.hok a _ h1).1
    rw [List.size_toArray]
    omega
  · have hn : ((ks.zip yl).map (·.1)).Nodup := by
      rw [List.map_fst_zip (by have := ry.length; omega)]
      exact nd
    rw [merged_nil_of_nodup _ hn] at hd
    have kp : ∀ c o, s1.heap.get? c = some o → h2.get? c = some o := fun c o e => by
      have := Heap.lt_size e
      refine hk2 c o ?_ (hk c o e)
      simp only [List.mem_cons, List.not_mem_nil, or_false, not_or]
      exact ⟨Ne.symm (off 4 c this), Ne.symm (off 3 c this), Ne.symm (off 0 c this), Ne.symm (off 1 c this)⟩
    have hge : s1.heap.objs.size ≤ h'.objs.size := by rw [hs5]; exact Nat.le_add_right _ _
    have hfr := I1.hok.fresh hge
    have hbig : sysModules < h'.objs.size := Nat.lt_of_lt_of_le I1.big hge
    refine ⟨.ref h'.objs.size, _, I1.laid (o := .dK (ks.zip ys)) (h' := h2) (t' := tk) kp hge ⟨?_, beq_eq_false_iff_ne.mpr (Nat.ne_of_gt hbig), _, kv_zip rx ry hl, hd⟩, rfl, q _ hfr⟩
    have := (I1.hok a _ h1).1
    rw [List.length_map] at this
    rw [List.length_zip]
    omega
end
end CZ

/-! CZ4: list(d.values()), sorted(d.items()) of a dict of ints. -/
namespace CZ
open PySem PySem.Spec PyProof.Rows L2 Evl CE
/-- a dict of ints, by its pairs -/
def pK (M : CL.Prs) : List (Key × V) := M.map fun x => (Sum.inl (x.1 : Int), nV x.2)
def valuesO (p d : Addr) : HO := .ext fun h => h.IsValuesView p d
theorem valuesO_ok {P : Program} {w : World} {H : Hp} {h : Heap} {p d : Addr} (e : h.get? p = some { cls := .type "dict_values", data := .fields #[.ref d] }) : ObjOk P w H h p (valuesO p d) :=
  ⟨⟨_, e, rfl, rfl⟩, ⟨_, e⟩, fun h1 h2 x k => let ⟨o, ho, r⟩ := x; ⟨o, k o ho, r⟩⟩
theorem itemsO_ok' {P : Program} {w : World} {H : Hp} {h : Heap} {p d : Addr} (e : h.get? p = some { cls := .type "dict_items", data := .fields #[.ref d] }) : ObjOk P w H h p (L2.DX.itemsO p d) := L2.DX.itemsO_ok e
section
variable {X : Cx}
def rValsK : V → List V → Hp → VK → Prop := fun x xs H Q => ∃ (a : Addr) (kvs : List (Key × V)), x = .ref a ∧ xs = [] ∧ H a = some (.dK kvs) ∧ ∀ p, H p = none → Q (.ref p) (upd H p (valuesO p a))
theorem mt_valsK : MtR X "dict.values" rValsK := by
  intro pins s σ H x xs v us Q I rx rxs h
  obtain ⟨a, kvs, rfl, rfl, ha, q⟩ := h
  cases rx
  cases rxs
  obtain ⟨z, hd, vs, kv, hdo⟩ := dk_of I.hok ha
  obtain ⟨es, ep, hraw, _, _⟩ := hdo.raw
  refine call_meetsIn F.slot_dict_values hdo.typeIs F.entry_dict_values (F.args_dict_values_1 _) (meets_dict_values_raw a hd) ⟨⟨es, ep, hraw⟩, ?_⟩
  have hf : H s.heap.objs.size = none := I.hok.fresh (Nat.le_refl _)
  exact ⟨.ref s.heap.objs.size, upd H s.heap.objs.size (valuesO s.heap.objs.size a), I.laid (t' := s.toks) (fun b u e => Heap.get?_push_of_some _ e) (Nat.le_refl _) (valuesO_ok (Heap.get?_push_size _ rfl)), rfl, q _ hf⟩
def rItemsK : V → List V → Hp → VK → Prop := fun x xs H Q => ∃ (a : Addr) (kvs : List (Key × V)), x = .ref a ∧ xs = [] ∧ H a = some (.dK kvs) ∧ ∀ p, H p = none → Q (.ref p) (upd H p (L2.DX.itemsO p a))
theorem mt_itemsK : MtR X "dict.items" rItemsK := by
  intro pins s σ H x xs v us Q I rx rxs h
  obtain ⟨a, kvs, rfl, rfl, ha, q⟩ := h
  cases rx
  cases rxs
  obtain ⟨z, hd, vs, kv, hdo⟩ := dk_of I.hok ha
  refine call_meetsIn F.slot_dict_items hdo.typeIs F.entry_dict_items (F.args_dict_items_1 _) (meets_dict_items (mixKind X.prog X.w) a hd) ⟨⟨vs, hdo⟩, ?_⟩
  have hf : H s.heap.objs.size = none := I.hok.fresh (Nat.le_refl _)
  exact ⟨.ref s.heap.objs.size, upd H s.heap.objs.size (L2.DX.itemsO s.heap.objs.size a), I.laid (t' := s.toks) (fun b u e => Heap.get?_push_of_some _ e) (Nat.le_refl _) (itemsO_ok' (Heap.get?_push_size _ rfl)), rfl, q _ hf⟩
/-- list(of that view) -/
def rLstV : List V → Hp → VK → Prop := fun xs H Q => ∃ (p a : Addr) (kvs : List (Key × V)), xs = [.ref p] ∧ H p = some (valuesO p a) ∧ H a = some (.dK kvs) ∧ ∀ l, H l = none → Q (.ref l) (upd H l (.lst (kvs.map (·.2))))
theorem kv_at : ∀ {kvs : List (Key × V)} {vs : List (Key × Value)}, KV kvs vs → ∀ {j : Nat} {k : Key} {x : V}, kvs[j]? = some (k, x) → ∃ v, vs[j]? = some (k, v) ∧ RelV x v
  | _, _, .nil, j, k, x, h => by simp at h
  | _, _, @Paired.cons _ _ _ p q ps qs r t, 0, k, x, h => by
    simp only [List.getElem?_cons_zero, Option.some.injEq] at h
    subst h
    exact ⟨q.2, by rw [List.getElem?_cons_zero]; exact congrArg some (Prod.ext r.1.symm rfl), r.2⟩
  | _, _, .cons r t, j + 1, k, x, h => by simpa using kv_at t (by simpa using h)
theorem vals_ix : ∀ {xs : List V} {us : List Value}, xs.length = us.length → (∀ (j : Nat) (x : V), xs[j]? = some x → ∃ u, us[j]? = some u ∧ RelV x u) → Vals xs us
  | [], [], _, _ => .nil
  | [], _ :: _, h, _ => by cases h
  | _ :: _, [], h, _ => by cases h
  | x :: xs, u :: us, h, r => by
    obtain ⟨u', e, ru⟩ := r 0 x rfl
    simp only [List.getElem?_cons_zero, Option.some.injEq] at e
    subst e
    exact .cons ru (vals_ix (by simpa using h) fun j y hy => by simpa using r (j + 1) y (by simpa using hy))
theorem cr_lstV (hc : X.calm = true) : CallR X (.type "list") rLstV := by
  intro pins s σ H xs us Q I r h
  obtain ⟨p, a, kvs, rfl, hp, ha, q⟩ := h
  obtain ⟨u, rfl, ru⟩ := vals1 r
  cases ru
  have view : s.heap.IsValuesView p a := (show ObjOk X.prog X.w H s.heap p (valuesO p a) from I.hok p _ hp).1
  obtain ⟨z, hd, vs, kv, hdo⟩ := dk_of I.hok ha
  obtain ⟨es, ep, hraw, hsz, hen⟩ := hdo.raw
  have lk : kvs.length = vs.length := Paired.length kv
  refine PySem.W.kdl_call (KdlSrc.rawValues (d := a) (es := es) (ep := ep)) (I.ok.hd hc) ⟨view, hraw⟩ (by omega) fun h' tk acc c hk hS hacc => ?_
  have hf : H s.heap.objs.size = none := I.hok.fresh (Nat.le_refl _)
  refine ⟨.ref s.heap.objs.size, upd H s.heap.objs.size (.lst (kvs.map (·.2))), I.laid (t' := tk) hk (Nat.le_refl _) ⟨by rw [List.length_map]; exact z, acc.toList, c, ?_, by rw [Array.toArray_toList]; exact hS⟩, rfl, q _ hf⟩
  refine vals_ix (by have e1 := hacc.1; have e2 : acc.toList.length = acc.size := Array.length_toList; rw [List.length_map]; omega) fun j x hx => ?_
  rw [List.getElem?_map] at hx
  cases hkj : kvs[j]? with
  | none => rw [hkj] at hx; cases hx
  | some kx =>
    rw [hkj] at hx
    have ex : kx.2 = x := Option.some.inj hx
    obtain ⟨v, hv, rv⟩ := kv_at kv (k := kx.1) (x := kx.2) hkj
    have hj : j < acc.size := by rw [hacc.1, hsz]; exact (List.getElem?_eq_some_iff.mp hv).1
    have ha : acc[j]? = some acc[j] := Array.getElem?_eq_getElem hj
    refine ⟨acc[j], by rw [Array.getElem?_toList]; exact ha, ?_⟩
    obtain ⟨hi, e⟩ := hacc.2 j _ ha
    obtain ⟨_, e2⟩ := hen j hi kx.1 v hv
    rw [e, e2, ← ex]
    exact rv
/-- sorted(of the other view) -/
def rSortK : List V → Hp → VK → Prop := fun xs H Q => ∃ (p a : Addr) (M : CL.Prs), xs = [.ref p] ∧ H p = some (L2.DX.itemsO p a) ∧ H a = some (.dK (pK M)) ∧
  ∀ (H' : Hp) (l : Addr) (zs : List (Addr × Nat × Nat)), Ex H H' → (zs.map (·.2)).Perm M → (zs.map (·.2)).Pairwise (fun e f => e.1 ≤ f.1) → H' l = some (.lst (zs.map fun z => V.ref z.1)) → (∀ z ∈ zs, H' z.1 = some (.tup [nV z.2.1, nV z.2.2])) → Q (.ref l) H'
theorem idx_at {as : List Addr} (nd : as.Nodup) {j : Nat} {b : Addr} (h : as[j]? = some b) : as.idxOf b = j := by
  have hm := List.mem_of_getElem? h
  have h2 : as[as.idxOf b]? = some b := by
    have hl := List.idxOf_lt_length_of_mem hm
    rw [List.getElem?_eq_getElem hl, List.getElem_idxOf hl]
  exact (List.getElem?_inj (List.getElem?_eq_some_iff.mp h2).1 nd).mp (h2.trans h.symm)
theorem cr_sortK (hc : X.calm = true) : CallR X (.builtin "sorted") rSortK := by
  intro pins s σ H xs us Q I r h
  obtain ⟨p, a, M, rfl, hp, ha, q⟩ := h
  obtain ⟨u, rfl, ru⟩ := vals1 r
  cases ru
  have view : s.heap.IsItemsView p a := (show ObjOk X.prog X.w H s.heap p (L2.DX.itemsO p a) from I.hok p _ hp).1
  obtain ⟨z, hd, vs, kv, o, es, ep, ho, hx, hdat, _, hpr, _⟩ := dk_of I.hok ha
  have lk : (pK M).length = vs.length := Paired.length kv
  have lM : (pK M).length = M.length := List.length_map _
  have le : es.toList.length = vs.length := hpr.length
  have le2 : es.toList.length = es.size := Array.length_toList
  have hh : X.A.handled = none := I.ok.hd hc
  refine DT.sortedI (es := es) (ep := ep) hh view ⟨o, ho, hx, hdat⟩ (by omega) fun h' tk as hk hlt hl hG => ?_
  have lak : as.length = M.length := by omega
  have nd : as.Nodup := List.Pairwise.imp (fun h => Nat.ne_of_lt h) hG.rise
  have pr : ∀ (j : Nat) (b : Addr), as[j]? = some b → ∃ (x : Nat × Nat) (t u : Tok), M[j]? = some x ∧ h'.get? b = some { cls := .type "tuple", data := .seq #[Value.int x.1 t, Value.int x.2 u] } := by
    intro j b hj
    obtain ⟨en, he, hg⟩ := hG.pairs j b hj
    have hjM : j < M.length := by rw [← lak]; exact (List.getElem?_eq_some_iff.mp hj).1
    have hM : M[j]? = some M[j] := List.getElem?_eq_getElem hjM
    have hkM : (pK M)[j]? = some (Sum.inl (M[j].1 : Int), nV M[j].2) := by unfold pK; rw [List.getElem?_map, hM]; rfl
    obtain ⟨v, hv, t2, rv⟩ := kv_at kv hkM
    obtain ⟨hk1, hk2⟩ := hpr.get? (by rw [Array.getElem?_toList]; exact he) hv
    have hk3 : keyIs (Sum.inl (M[j].1 : Int)) en.key = true := hk1
    obtain ⟨t1, e1⟩ : ∃ t, en.key = Value.int (M[j].1 : Int) t := keyIs_rel hk3
    refine ⟨M[j], t1, t2, hM, ?_⟩
    rw [hg, e1, hk2, rv]
  have hob : (h'.push { cls := .type "list", data := .seq (as.map Value.ref).toArray }).get? h'.objs.size = some (seqObj "list" (as.map Value.ref).toArray 0) := Heap.get?_push_size _ rfl
  have ka : ∀ b o, h'.get? b = some o → (h'.push { cls := .type "list", data := .seq (as.map Value.ref).toArray }).get? b = some o := fun b o e => Heap.get?_push_of_some _ e
  have ne0 : ∀ b o, h'.get? b = some o → b ≠ h'.objs.size := fun b o e => Nat.ne_of_lt (Heap.lt_size e)
  generalize h'.push { cls := .type "list", data := .seq (as.map Value.ref).toArray } = h2 at hob ka ⊢
  obtain ⟨kf, hkf⟩ : ∃ kf : Value → Int × Int, kf = fun v => match v with
    | .ref b => (((M.getD (as.idxOf b) (0, 0)).1 : Int), ((M.getD (as.idxOf b) (0, 0)).2 : Int))
    | _ => (0, 0) := ⟨_, rfl⟩
  have kat : ∀ (j : Nat) (b : Addr) (x : Nat × Nat), as[j]? = some b → M[j]? = some x → kf (.ref b) = ((x.1 : Int), (x.2 : Int)) := fun j b x h1 h2 => by
    rw [hkf]
    show (((M.getD (as.idxOf b) (0, 0)).1 : Int), ((M.getD (as.idxOf b) (0, 0)).2 : Int)) = _
    rw [idx_at nd h1, List.getD_eq_getElem?_getD, h2]
    rfl
  have hz : (as.map Value.ref).length ≤ sizeLine := by rw [List.length_map]; omega
  have pairs : ∀ v ∈ as.map Value.ref, Srt.IsPair h2 v (kf v).1 (kf v).2 := fun v hv => by
    obtain ⟨b, hb, rfl⟩ := List.mem_map.mp hv
    obtain ⟨j, hj⟩ := List.mem_iff_getElem?.mp hb
    obtain ⟨x, t, u, e1, e2⟩ := pr j b hj
    rw [kat j b x hj e1]
    exact ⟨b, _, t, u, 0, rfl, ka _ _ e2, rfl, rfl⟩
  refine wpAny_call_entry PyProof.Rows.slot_list_sort ⟨_, hob, rfl⟩ PyProof.Rows.entry_list_sort
    (SrtO.list_sort_ord (s := { s with heap := h2, toks := tk }) (SrtO.swo_lex kf) hob hz (fun h0 => SrtO.pairs_sortableO (s := { s with heap := h2, toks := tk }) (by omega) pairs fun o e c => ?_) fun out hs hb => ⟨.none, rfl, ?_⟩) (PyProof.Rows.args_list_sort _)
  · rw [hob] at e
    cases e
    exact absurd (Value.type.inj c) (by decide)
  · show EP X pins σ Q (.ref h'.objs.size) { s with heap := sortedHeap h2 h'.objs.size (as.map Value.ref) out.toArray, toks := tk }
    have ez : (as.zip M).map (fun z : Addr × Nat × Nat => Value.ref z.1) = as.map Value.ref := by
      have : (as.zip M).map (·.1) = as := List.map_fst_zip (Nat.le_of_eq lak)
      conv => rhs; rw [← this]
      rw [List.map_map]
      rfl
    obtain ⟨zs, pz, eo⟩ := L2.perm_lift (fun z : Addr × Nat × Nat => Value.ref z.1) hb.perm (as.zip M) ez
    have idx : ∀ z ∈ zs, ∃ j : Nat, as[j]? = some z.1 ∧ M[j]? = some z.2 := fun z hz => by
      obtain ⟨j, hj⟩ := List.mem_iff_getElem?.mp (pz.mem_iff.mp hz)
      exact ⟨j, List.getElem?_zip_eq_some.mp hj⟩
    have hperm : (zs.map (·.2)).Perm M := by
      have e := pz.map (·.2)
      have m2 : (as.zip M).map (·.2) = M := List.map_snd_zip (Nat.le_of_eq lak.symm)
      rw [m2] at e
      exact e
    have hsort : (zs.map (·.2)).Pairwise (fun e f => e.1 ≤ f.1) := by
      have hs : out.Pairwise fun x y => SrtO.lexB (kf y) (kf x) = false := hs
      rw [← eo, List.pairwise_map] at hs
      rw [List.pairwise_map]
      refine List.Pairwise.imp_of_mem (fun {x y} hx hy h => ?_) hs
      obtain ⟨j, j1, j2⟩ := idx x hx
      obtain ⟨i, i1, i2⟩ := idx y hy
      have h := SrtO.lexB_no.mp h
      rw [kat j _ _ j1 j2, kat i _ _ i1 i2] at h
      simp only at h
      omega
    have kF : ∀ b o, b ≠ h'.objs.size → h2.get? b = some o → (sortedHeap h2 h'.objs.size (as.map Value.ref) out.toArray).get? b = some o := fun b o hb e => (PyProof.Rows.sortedHeap_old hb (Heap.lt_size e)).trans e
    have kS : ∀ b o, s.heap.get? b = some o → (sortedHeap h2 h'.objs.size (as.map Value.ref) out.toArray).get? b = some o := fun b o e => kF b o (ne0 _ _ (hk b o e)) (ka _ _ (hk b o e))
    obtain ⟨eF, heF⟩ := PyProof.Rows.sortedHeap_at (vs := as.map Value.ref) (out := out.toArray) hob
    have I1 : Inv X pins σ H { s with heap := sortedHeap h2 h'.objs.size (as.map Value.ref) out.toArray, toks := tk } := I.kept (t' := tk) kS
    have hn0 : H h'.objs.size = none := I.hok.fresh (Nat.le_of_lt hlt)
    have rv : Vals (zs.map fun z => V.ref z.1) out := by
      rw [← eo]
      exact L2.vals_maps (fun z : Addr × Nat × Nat => V.ref z.1) (fun z => Value.ref z.1) zs fun _ _ => rfl
    have hlen : (zs.map fun z => V.ref z.1).length ≤ sizeLine := by
      have e := hperm.length_eq
      rw [List.length_map] at e
      rw [List.length_map]
      omega
    have I2 : Inv X pins σ (upd H h'.objs.size (.lst (zs.map fun z => V.ref z.1))) { s with heap := sortedHeap h2 h'.objs.size (as.map Value.ref) out.toArray, toks := tk } :=
      I1.take (h' := sortedHeap h2 h'.objs.size (as.map Value.ref) out.toArray) (t' := tk) (fun b ob _ e => e) (I.fpOk (Nat.le_of_lt hlt) hn0) ⟨hlen, out, eF, rv, heF⟩
    obtain ⟨H2, I3, g, qt⟩ := L2.DX.takeT (P := fun b vs => ∃ (j : Nat) (x : Nat × Nat), as[j]? = some b ∧ M[j]? = some x ∧ vs = [nV x.1, nV x.2]) I as _ I2 nd fun b hb => by
      obtain ⟨j, hj⟩ := List.mem_iff_getElem?.mp hb
      obtain ⟨x, t, u, hx, hg⟩ := pr j b hj
      have hbl : s.heap.objs.size ≤ b := Nat.le_of_lt (hG.above b hb)
      refine ⟨hbl, ?_, [nV x.1, nV x.2], ⟨j, x, hj, hx, rfl⟩, fun H3 => ⟨(by show 2 ≤ sizeLine; decide), [Value.int x.1 t, Value.int x.2 u], .cons ⟨t, rfl⟩ (.cons ⟨u, rfl⟩ .nil), ⟨_, kF _ _ (ne0 _ _ hg) (ka _ _ hg), rfl, 0, rfl⟩⟩⟩
      rw [upd_ne (ne0 _ _ hg)]
      exact I.hok.fresh hbl
    have gr : ∀ b o, H b = some o → H2 b = some o := fun b o e => g b o (by rw [upd_ne (ne_of_none e hn0)]; exact e)
    refine ⟨.ref h'.objs.size, H2, I3, rfl, q H2 h'.objs.size zs gr hperm hsort (g _ _ upd_same) fun z' hz' => ?_⟩
    obtain ⟨i, i1, i2⟩ := idx z' hz'
    obtain ⟨vs, ⟨j, x, j1, j2, ev⟩, hH⟩ := qt z'.1 (List.mem_of_getElem? i1)
    have eij : i = j := (List.getElem?_inj (List.getElem?_eq_some_iff.mp i1).1 nd).mp (i1.trans j1.symm)
    subst eij
    have ee : x = z'.2 := Option.some.inj (j2.symm.trans i2)
    rw [ev, ee] at hH
    exact hH
end
end CZ

/-! CB1: dicts of ints, as they are read. -/
namespace CB
open PySem L2 Evl CE CZ
abbrev kN (n : Nat) : Key := Sum.inl (n : Int)
theorem kN_inj {a b : Nat} : kN a = kN b ↔ a = b := ⟨fun h => by have := Sum.inl.inj h; omega, fun h => by rw [h]⟩
theorem val_pK : ∀ (M : CL.Prs) (k : Nat), valV (pK M) (kN k) = (CL.aget M k).map nV
  | [], k => rfl
  | (a, b) :: M, k => by
    by_cases h : a = k
    · subst h
      rw [show pK ((a, b) :: M) = (kN a, nV b) :: pK M from rfl, valV_pos rfl]
      unfold CL.aget
      rw [List.find?_cons]
      simp
    · have e1 : valV (pK ((a, b) :: M)) (kN k) = valV (pK M) (kN k) := valV_neg (p := (kN a, nV b)) fun z => h (kN_inj.mp z)
      rw [e1, val_pK M k]
      unfold CL.aget
      rw [List.find?_cons]
      simp [h]
theorem any_pK (M : CL.Prs) (k : Nat) : ((pK M).any fun kv => decide (kv.1 = kN k)) = M.any fun kv => decide (kv.1 = k) := by
  unfold pK
  rw [List.any_map]
  congr 1
  funext x
  show decide (kN x.1 = kN k) = _
  rw [Bool.eq_iff_iff, decide_eq_true_iff, decide_eq_true_iff]
  exact kN_inj
theorem put_pK (M : CL.Prs) (k v : Nat) : putK (pK M) (kN k) (nV v) = pK (CL.aput M k v) := by
  unfold putK CL.aput
  rw [any_pK]
  cases M.any fun kv => decide (kv.1 = k) with
  | true =>
    rw [if_pos rfl, if_pos rfl]
    unfold pK
    rw [List.map_map, List.map_map]
    refine List.map_congr_left fun x _ => ?_
    show (if kN x.1 = kN k then (kN x.1, nV v) else (kN x.1, nV x.2)) = (kN (if x.1 = k then (x.1, v) else x).1, nV (if x.1 = k then (x.1, v) else x).2)
    by_cases h : x.1 = k
    · rw [if_pos (kN_inj.mpr h), if_pos h]
    · rw [if_neg (fun z => h (kN_inj.mp z)), if_neg h]
  | false =>
    rw [if_neg Bool.false_ne_true, if_neg Bool.false_ne_true]
    unfold pK
    rw [List.map_append]
    rfl
theorem len_pK (M : CL.Prs) : (pK M).length = M.length := List.length_map _
/-- a dict of ints -/
def IsM (M : CL.Prs) : VP := fun v H => ∃ a, v = .ref a ∧ H a = some (.dK (pK M))
theorem stx_M (M : CL.Prs) : Stx (IsM M) := fun v H H' e ⟨a, hv, ha⟩ => ⟨a, hv, e a _ ha⟩
def oV : Option Nat → V
  | none => .non
  | some i => nV i
/-- all but p is as it was -/
def Xp (p : Addr) (H H' : Hp) : Prop := ∀ a o, a ≠ p → H a = some o → H' a = some o
theorem Xp.refl (p : Addr) (H : Hp) : Xp p H H := fun _ _ _ h => h
theorem Xp.ex {p : Addr} {H H1 H2 : Hp} (x : Xp p H H1) (e : Ex H1 H2) : Xp p H H2 := fun a o h q => e a o (x a o h q)
theorem Xp.put {p : Addr} {H H1 : Hp} {o : HO} (x : Xp p H H1) : Xp p H (upd H1 p o) := fun a u h q => by
  rw [upd_ne h]
  exact x a u h q
theorem Xp.ltx {p : Addr} {H H1 : Hp} {kvs : List (Key × V)} (x : Xp p H H1) (h : H p = some (.dK kvs)) : LTx H H1 :=
  ⟨fun a xs e => x a _ (fun z => by rw [z, h] at e; cases e) e, fun a xs e => x a _ (fun z => by rw [z, h] at e; cases e) e⟩
section
variable {K : PySem.W.Frag} {σ : L2.St} {H : Hp} {t1 t2 td ty tv : TE} {D : Ends} {tz : TS}
theorem q_dz {g d : List Nat} {i : Nat} (h1 : EvP t1 σ H (IsG g)) (h2 : EvP t2 σ H (IsG d)) (hl : d.length = g.length) (nd : g.Nodup)
    (k : ∀ p H1, Ex H H1 → H1 p = none → tz D (σ.set i (some (.ref p))) (upd H1 p (.dK (pK (g.zip d))))) : tSeq (tAsg (tDz (tCons t1 (tCons t2 tNil))) (gName i)) tz D σ H := by
  refine h1 H (Ex.refl H) _ fun v H1 e1 ⟨a, hv, ha⟩ => h2 H1 e1 _ fun w H2 e2 ⟨b, hw, hb⟩ => ?_
  subst hv hw
  refine ⟨a, b, g.map kN, eN d, rfl, ?_, hb, by simp [hl], ?_, fun p hp => ?_⟩
  · rw [e2 a _ ha, List.map_map]
    rfl
  · unfold List.Nodup
    rw [List.pairwise_map]
    exact List.Pairwise.imp (fun h z => h (kN_inj.mp z)) nd
  · have e : (g.map kN).zip (eN d) = pK (g.zip d) := by
      unfold pK
      rw [List.zip_map]
      rfl
    rw [e]
    exact k p H2 (e1.trans e2) hp
theorem ep_vals {M : CL.Prs} (h : EvP td σ H (IsM M)) : EvP (tCB rLstV (tCons (tBM0 K "dict" rValsK td) tNil)) σ H (IsN (M.map (·.2))) := fun H1 e Q q => h H1 e _ fun v H2 e2 ⟨a, hv, ha⟩ => by
  subst hv
  refine ⟨.inr (.inr (.inl ⟨rfl, .inl ⟨_, ha⟩⟩)), a, _, rfl, rfl, ha, fun p hp => ?_⟩
  have ex : Ex H2 (upd H2 p (valuesO p a)) := Ex.new hp
  refine ⟨p, a, _, rfl, upd_same, ex a _ ha, fun l hl => q (.ref l) _ ((e2.trans ex).trans (Ex.new hl)) ⟨l, rfl, ?_⟩⟩
  rw [upd_same]
  unfold pK eN
  rw [List.map_map, List.map_map]
  rfl
/-- a list of pairs -/
def IsPs (M : CL.Prs) : VP := IsL (M.map fun x => IsT [IsV (nV x.1), IsV (nV x.2)])
theorem ep_sorted {M : CL.Prs} (h : EvP td σ H (IsM M)) : EvP (tCB rSortK (tCons (tBM0 K "dict" rItemsK td) tNil)) σ H (fun v H => ∃ M', M'.Perm M ∧ M'.Pairwise (fun e f => e.1 ≤ f.1) ∧ IsPs M' v H) := fun H1 e Q q => h H1 e _ fun v H2 e2 ⟨a, hv, ha⟩ => by
  subst hv
  refine ⟨.inr (.inr (.inl ⟨rfl, .inl ⟨_, ha⟩⟩)), a, _, rfl, rfl, ha, fun p hp => ?_⟩
  have ex : Ex H2 (upd H2 p (L2.DX.itemsO p a)) := Ex.new hp
  refine ⟨p, a, M, rfl, upd_same, ex a _ ha, fun H' l zs g hp hs hl hz => q (.ref l) H' ((e2.trans ex).trans g) ⟨zs.map (·.2), hp, hs, l, _, rfl, hl, ?_⟩⟩
  have : ∀ zs : List (Addr × Nat × Nat), (∀ z ∈ zs, H' z.1 = some (.tup [nV z.2.1, nV z.2.2])) → AllP ((zs.map (·.2)).map fun x => IsT [IsV (nV x.1), IsV (nV x.2)]) (zs.map fun z => V.ref z.1) H' := fun zs => by
    induction zs with
    | nil => intro _; trivial
    | cons z zs ih => exact fun h => ⟨⟨z.1, _, rfl, h z (by simp), rfl, rfl, trivial⟩, ih fun y hy => h y (by simp [hy])⟩
  exact this zs hz
theorem et_inN {M : CL.Prs} {cur : Option Nat} (h : EvP ty σ H (IsV (oV cur))) (hd : EvP td σ H (IsM M)) : EvT (tB (tDInN ty td)) σ H ((cur.bind (CL.aget M)).isSome) := fun H1 e Q q => h H1 e _ fun v H2 e2 hv => by
  have hv : v = oV cur := hv
  subst hv
  refine hd H2 (e.trans e2) _ fun w H3 e3 ⟨a, hw, ha⟩ => ?_
  subst hw
  cases cur with
  | none => exact .inr ⟨a, _, rfl, rfl, .inl ha, _, rfl, q H3 (e2.trans e3)⟩
  | some i =>
    refine .inl ⟨a, _, rfl, DGet.k (k := kN i) ha, _, rfl, ?_⟩
    rw [val_pK]
    have e0 : ((CL.aget M i).map nV).isSome = ((some i).bind (CL.aget M)).isSome := by
      show _ = (CL.aget M i).isSome
      cases CL.aget M i <;> rfl
    rw [e0]
    exact q H3 (e2.trans e3)
theorem ev_getK {M : CL.Prs} {i p : Nat} (hd : EvP td σ H (IsM M)) (h : Ev ty σ H (nV i)) (hp : CL.aget M i = some p) : Ev (tDGet td ty) σ H (nV p) := fun H1 e Q q => hd H1 e _ fun w H2 e2 ⟨a, hw, ha⟩ => by
  subst hw
  refine h H2 (e.trans e2) _ fun H3 e3 => ⟨a, nV p, rfl, ?_, q H3 (e2.trans e3)⟩
  have := DGet.k (k := kN i) (e3 a _ ha)
  rw [val_pK, hp] at this
  exact this
theorem ev_get1 {M : CL.Prs} {i : Nat} (hd : EvP td σ H (IsM M)) (h : Ev ty σ H (nV i)) : Ev (tDGet1 td ty) σ H (oV (CL.aget M i)) := fun H1 e Q q => hd H1 e _ fun w H2 e2 ⟨a, hw, ha⟩ => by
  subst hw
  refine ⟨a, rfl, .inl ⟨_, .inl ha⟩, h H2 (e.trans e2) _ fun H3 e3 => ⟨_, DGet.k (k := kN i) (e3 a _ ha), ?_⟩⟩
  rw [val_pK]
  have e0 : ((CL.aget M i).map nV).getD .non = oV (CL.aget M i) := by cases CL.aget M i <;> rfl
  rw [e0]
  exact q H3 (e2.trans e3)
theorem q_putK {M : CL.Prs} {i v : Nat} {a : Addr} (hv : Ev tv σ H (nV v)) (hd : Ev td σ H (.ref a)) (hy : Ev ty σ H (nV i)) (ha : H a = some (.dK (pK M))) (hz : M.length ≤ 1000)
    (k : ∀ H1, Ex H H1 → tz D σ (upd H1 a (.dK (pK (CL.aput M i v))))) : tSeq (sDPut td ty tv) tz D σ H := by
  refine hv H (Ex.refl H) _ fun H1 e1 => hd H1 e1 _ fun H2 e2 => hy H2 (e1.trans e2) _ fun H3 e3 => ?_
  have e := (e1.trans e2).trans e3
  refine ⟨a, _, rfl, DPut.k (k := kN i) (e a _ ha) ?_, ?_⟩
  · rw [len_pK]
    exact Nat.lt_of_le_of_lt hz (by decide)
  · rw [put_pK]
    exact k H3 e
end
end CB

/-! CB2: both. -/
namespace CL
theorem Mt.perm {js : List (List Nat)} {n : Nat} {M M' : Prs} (h : Mt js n M) (p : M'.Perm M) : Mt js n M' where
  ok := fun a b hm => h.ok a b (p.mem_iff.mp hm)
  key := (p.map _).nodup_iff.mpr h.key
  inj := fun a b c h1 h2 => h.inj a b c (p.mem_iff.mp h1) (p.mem_iff.mp h2)
theorem Mt.small {js : List (List Nat)} {n : Nat} {M : Prs} (h : Mt js n M) : M.length ≤ n := by
  have := nodup_le h.key (b := List.range n) fun x hx => by
    obtain ⟨⟨a, b⟩, hm, rfl⟩ := List.mem_map.mp hx
    exact List.mem_range.mpr (h.ok a b hm).1
  rw [List.length_map, List.length_range] at this
  exact this
end CL
namespace CB
open PySem L2 Evl CE CZ CW CG
section
variable {P : Program} {w : World} {K : PySem.W.Frag} {mg : Str → Option Value} {base : Heap} {C : Addr}
abbrev bN : List Str := ["jobs", "group", "wanted", "short", "turned", "held", "fillers", "filled", "start", "index", "person", "left"]
theorem scBoth : FnScope bN ["jobs", "group", "wanted"] (defScope sBoth) := ⟨rfl, rfl, rfl, by decide +kernel, rfl, by decide +kernel, by decide +kernel⟩
def spBoth (C : Addr) : Sp := PrF (fun a : Nat × List (List Nat) × List Nat × List Nat => [IsJ C a.1 a.2.1, IsG a.2.2.1, IsG a.2.2.2])
  (fun a => a.1 ≤ 7 ∧ a.2.1.length ≤ 7 ∧ CL.WF a.1 a.2.1 ∧ CL.Grp a.1 a.2.2.1 ∧ CL.Grp a.2.1.length a.2.2.2 ∧ CL.canF a.2.1 a.2.2.1 = true ∧ CL.canF (CL.turnM a.1 a.2.1) a.2.2.2 = true)
  (fun a v H => ∃ M, CL.Mt a.2.1 a.1 M ∧ (∀ p ∈ a.2.2.1, p ∈ M.map (·.1)) ∧ (∀ x ∈ a.2.2.2, x ∈ M.map (·.2)) ∧ M.Pairwise (fun e f => e.1 ≤ f.1) ∧ IsPs M v H)
theorem use_deal {σ : L2.St} {H : Hp} {E : XK} {t1 t2 : TE} {js : List (List Nat)} {g : List Nat} {n : Nat} (h1 : EvP t1 σ H (IsJ C n js)) (h2 : EvP t2 σ H (IsG g)) (hj : js.length ≤ 7) (hg : g.length ≤ 7) (hne : CL.dealsL js g ≠ []) :
    EvP (tCall (spDeal C) [] E (tCons t1 (tCons t2 tNil))) σ H (IsG (CL.dealM js g)) := by
  unfold spDeal
  exact ep_fn (out := fun a : Nat × List (List Nat) × List Nat => IsG ((CL.dealsL a.2.1 a.2.2).headD [])) (n, js, g) (eap_cons h1 (stx_J C n js) (eap_cons h2 (stt_G g).x eap_nil)) ⟨hj, hg, hne⟩ (stx2 (stx_J C n js) (stt_G g).x)
theorem ok_both {f : Addr} {fd : FuncData} (F : Fun K "both" "both" sBoth f fd) (B : Bf mg) (T : TJ K mg C) (C1 : Cal P w K mg base 3 "short_part" ["jobs", "group"] (spShortPart C)) (C2 : Cal P w K mg base 21 "deal" ["jobs", "group"] (spDeal C)) (M6 : CalM P w K mg base 6 C "turned" ["self"] (spTurned C)) :
    FnOk P w K mg base CX0 22 f fd ["jobs", "group", "wanted"] (spBoth C) := by
  refine F.ok (k := 21) scBoth (prF_len fun _ => rfl) (fun cdv A outer s H vs Q E hr h => ?_)
  obtain ⟨⟨n, js, g, b⟩, ⟨hn, hj, hw, hg, hb, cg, cb⟩, hi, k⟩ := h
  obtain ⟨v1, v2, v3, rfl, h1, h2, h3⟩ : ∃ v1 v2 v3, vs = [v1, v2, v3] ∧ IsJ C n js v1 H ∧ IsG g v2 H ∧ IsG b v3 H := by
    match vs, hi with
    | [v1, v2, v3], hi => exact ⟨v1, v2, v3, rfl, hi.1, hi.2.1, hi.2.2.1⟩
  have hn : n ≤ 7 := hn
  have hj : js.length ≤ 7 := hj
  have hu := hu_of hr
  have hu2 := hr.units
  refine ⟨_, pss_cons (ps_set (i := 3) scBoth.nd rfl (Or.inl rfl) (pe_fn C1 (hr.mono (by omega)) (pa_cons (pv 0) (pa_cons (pv 1) pa_nil))))
    (pss_cons (ps_if (pt_cmpR (k_neD K hu2) (pv 3) (pe_tup pa_nil) (nomark _)) pss_dead pss_nil)
    (pss_cons (ps_set (i := 4) scBoth.nd rfl (Or.inl rfl) (pe_mth0 T M6 (hr.mono (by omega)) (pv 0)))
    (pss_cons (ps_set (i := 3) scBoth.nd rfl (Or.inl rfl) (pe_fn C1 (hr.mono (by omega)) (pa_cons (pv 4) (pa_cons (pv 2) pa_nil))))
    (pss_cons (ps_if (pt_cmpR (k_neD K hu2) (pv 3) (pe_tup pa_nil) (nomark _)) pss_dead pss_nil)
    (pss_cons (ps_set (i := 5) scBoth.nd rfl (Or.inl rfl) (pe_dz (pa_cons (pv 1) (pa_cons (pe_fn C2 hr (pa_cons (pv 0) (pa_cons (pv 1) pa_nil))) pa_nil)) rfl rfl rfl B.dict B.zip))
    (pss_cons (ps_set (i := 6) scBoth.nd rfl (Or.inl rfl) (pe_dz (pa_cons (pv 2) (pa_cons (pe_fn C2 hr (pa_cons (pv 4) (pa_cons (pv 2) pa_nil))) pa_nil)) rfl rfl rfl B.dict B.zip))
    (pss_cons (ps_set (i := 7) scBoth.nd rfl (Or.inr rfl) (pe_ty (cr_lstV rfl) B.list PyProof.Rows.boot_list (pa_cons (pe_bm0 PySem.F.plainAttrs_dict PySem.F.slot_dict_values PySem.F.type_dict_values mt_valsK (pv 5)) pa_nil)))
    (pss_cons (ps_for PassesOwn.never rfl (k_pil K (pe_lc (own := [("index", 9)]) (g := gName 9) (tt := tTest (tOp (rIn K true) (tVar 9) (tVar 7))) rfl scBoth.nd (k_pit K (pv 2)) (blkOk_by (by kernel_rfl)) (fun _ _ _ _ _ => pg_name (i := 9) scBoth.nd rfl (Or.inl rfl))
        (fun _ _ _ _ _ => pts_one (pt_cmpR (k_ni K) (pv 9) (pv 7) (by rfl))) (fun _ _ _ _ _ => pv 9))) (pg_name (i := 8) scBoth.nd rfl (Or.inl rfl))
      (pss_cons (ps_set (i := 9) scBoth.nd rfl (Or.inl rfl) (pv 8))
      (pss_one (ps_while PassesOwn.never (pt_cmp (pc_dinN hu (pv 9) (pv 6)))
        (pss_cons (ps_set (i := 10) scBoth.nd rfl (Or.inl rfl) (pe_dget hu (pv 6) (pv 9) (fun _ _ => rfl)))
        (pss_cons (ps_set (i := 11) scBoth.nd rfl (Or.inl rfl) (pe_dget1 hu (pv 5) (pv 10) ⟨rfl, rfl, rfl, rfl⟩))
        (pss_cons (ps_dput hu (pv 5) (pv 10) (pv 9) rfl)
        (pss_one (ps_set (i := 9) scBoth.nd rfl (Or.inl rfl) (pv 11))))))))))
    (pss_one (ps_ret (pe_b (cr_sortK rfl) B.sorted PyProof.Rows.boot_sorted (pa_cons (pe_bm0 PySem.F.plainAttrs_dict PySem.F.slot_dict_items PySem.F.type_dict_items mt_itemsK (pv 5)) pa_nil)))))))))))), ?_⟩
  have gl := hg.len
  have bl := hb.len
  have gn : g.length ≤ 7 := Nat.le_trans gl hn
  have bn : b.length ≤ 7 := Nat.le_trans bl hj
  have tl : (CL.turnM n js).length ≤ 7 := by rw [CL.turn_len]; exact hn
  have hbt : CL.Grp js.length b := hb
  have sJ := stx_J C n js
  have sT := stx_J C js.length (CL.turnM n js)
  refine pq_asg (use_shortPart (ep_var rfl h1 sJ) (ep_var rfl h2 (stt_G g).x) hj gn) fun vs H1 e1 hs => ?_
  obtain ⟨r, hr1, hs⟩ := hs
  obtain rfl : r = [] := hr1.none hg cg
  refine q_when (b := false) (et_test (ev_neG (h := []) (ep_var rfl hs (stt_G _).x) isG_nil)) (fun z => by cases z) fun _ H2 e2 => ?_
  have h1b := sJ _ _ _ (e1.trans e2) h1
  refine pq_asg (use_turned (ep_var rfl h1b sJ) hn hj) fun vt H3 e3 ht => ?_
  have h3b := (stt_G b).x _ _ _ ((e1.trans e2).trans e3) h3
  refine pq_asg (use_shortPart (ep_var rfl ht sT) (ep_var rfl h3b (stt_G b).x) tl bn) fun vs2 H4 e4 hs2 => ?_
  obtain ⟨r2, hr2, hs2⟩ := hs2
  obtain rfl : r2 = [] := hr2.none hb cb
  refine q_when (b := false) (et_test (ev_neG (h := []) (ep_var rfl hs2 (stt_G _).x) isG_nil)) (fun z => by cases z) fun _ H5 e5 => ?_
  have E5 := (((e1.trans e2).trans e3).trans e4).trans e5
  have hd1 := CL.deal_ok hg cg
  have hd2 := CL.deal_ok hb cb
  refine q_dz (g := g) (d := CL.dealM js g) (ep_var rfl ((stt_G g).x _ _ _ E5 h2) (stt_G g).x) (use_deal (ep_var rfl (sJ _ _ _ E5 h1) sJ) (ep_var rfl ((stt_G g).x _ _ _ E5 h2) (stt_G g).x) hj gn (CL.deals_ne hg cg)) hd1.len hg.asc.nodup fun ph H6 e6 hp6 => ?_
  have e7 : Ex H6 (upd H6 ph (.dK (pK (g.zip (CL.dealM js g))))) := Ex.new hp6
  have hph0 : ∀ a o, H a = some o → a ≠ ph := fun a o h z => by
    have := e6 _ _ (E5 _ _ h)
    rw [z, hp6] at this; cases this
  have hph : upd H6 ph (.dK (pK (g.zip (CL.dealM js g)))) ph = some (.dK (pK (g.zip (CL.dealM js g)))) := upd_same
  generalize upd H6 ph (.dK (pK (g.zip (CL.dealM js g)))) = H7 at e7 hph ⊢
  have E7 := (E5.trans e6).trans e7
  have ht7 := sT _ _ _ (((e4.trans e5).trans e6).trans e7) ht
  have h37 := (stt_G b).x _ _ _ E7 h3
  refine q_dz (g := b) (d := CL.dealM (CL.turnM n js) b) (ep_var rfl h37 (stt_G b).x) (use_deal (ep_var rfl ht7 sT) (ep_var rfl h37 (stt_G b).x) tl bn (CL.deals_ne hb cb)) hd2.len hb.asc.nodup fun pf H8 e8 hp8 => ?_
  have hpf : pf ≠ ph := fun z => by rw [z, e8 _ _ hph] at hp8; cases hp8
  have e9 : Ex H8 (upd H8 pf (.dK (pK (b.zip (CL.dealM (CL.turnM n js) b))))) := Ex.new hp8
  have hF : upd H8 pf (.dK (pK (b.zip (CL.dealM (CL.turnM n js) b)))) pf = some (.dK (pK (b.zip (CL.dealM (CL.turnM n js) b)))) := upd_same
  generalize upd H8 pf (.dK (pK (b.zip (CL.dealM (CL.turnM n js) b)))) = H9 at e9 hF ⊢
  have hH := e9 _ _ (e8 _ _ hph)
  have E9 := (E7.trans e8).trans e9
  have hFl := CL.fl_of (n := n) (jobs := js) hb hd2
  have hMt := hd1.mt hg
  have hk0 : ∀ p ∈ g, p ∈ (g.zip (CL.dealM js g)).map (·.1) := fun p hp => by
    rw [List.map_fst_zip (Nat.le_of_eq hd1.len.symm)]
    exact hp
  have hI0 := CL.HInv.init hMt hk0 hb.asc.nodup
  have hFn : (b.zip (CL.dealM (CL.turnM n js) b)).length ≤ 7 := by rw [List.length_zip]; omega
  generalize g.zip (CL.dealM js g) = M0 at hH hMt hk0 hI0 ⊢
  generalize b.zip (CL.dealM (CL.turnM n js) b) = Fl at hF hFl hFn ⊢
  refine pq_asg (ep_vals (M := M0) (ep_var rfl ⟨ph, rfl, hH⟩ (stx_M M0))) fun vf H10 e10 hvf => ?_
  have hH10 := e10 _ _ hH
  have hF10 := e10 _ _ hF
  have h310 := (stt_G b).x _ _ _ (E9.trans e10) h3
  refine q_forQ (b.filter fun j => !(M0.map (·.2)).contains j) (fun j => IsV (nV j))
    (lcG b (fun j => IsV (nV j)) (fun j => !(M0.map (·.2)).contains j) (ep_var rfl h310 (stt_G b).x) (fun _ => stt_V _) (by omega) (fun _ => rfl) (fun a H11 _ e11 => et_test (ev_niN (ev_var rfl) (ep_var rfl (stx_N _ _ _ _ e11 hvf) (stx_N _)))) fun a H11 _ _ _ => ep_ev (ev_var rfl))
    (fun _ => stt_V _)
    (fun H11 i σ' H' => ∃ M x8 x9 x10 x11, σ' = [some v1, some v2, some v3, some vs2, some vt, some (.ref ph), some (.ref pf), some vf, x8, x9, x10, x11] ∧ Xp ph H11 H' ∧ H' ph = some (.dK (pK M)) ∧ CL.HInv js n g b M none ((b.filter fun j => !(M0.map (·.2)).contains j).drop i))
    (fun H11 i σ' H' e11 ⟨_, _, _, _, _, _, x, _, _⟩ => x.ltx (e11 _ _ hH10)) (fun H11 e11 => ⟨M0, none, none, none, none, rfl, Xp.refl _ _, e11 _ _ hH10, hI0⟩) ?_ ?_
  · rintro H11 i st v σ' H' e11 hst hv ⟨M, x8, x9, x10, x11, rfl, xp, hM, hI⟩
    have hv : v = nV st := hv
    subst hv
    have hlt : i < (b.filter fun j => !(M0.map (·.2)).contains j).length := (List.getElem?_eq_some_iff.mp hst).1
    have hdr : (b.filter fun j => !(M0.map (·.2)).contains j).drop i = st :: (b.filter fun j => !(M0.map (·.2)).contains j).drop (i + 1) := by
      rw [List.drop_eq_getElem_cons hlt]
      congr 1
      exact Option.some.inj ((List.getElem?_eq_getElem hlt).symm.trans hst)
    rw [hdr] at hI
    have hF11 := e11 _ _ hF10
    refine pq_asg (ep_ev (ev_var rfl)) fun vi H12 e12 hvi => ?_
    have hvi : vi = nV st := hvi
    subst hvi
    refine s_while (fun m σ2 H2 => ∃ M cur x10 x11, σ2 = [some v1, some v2, some v3, some vs2, some vt, some (.ref ph), some (.ref pf), some vf, some (nV st), some (oV cur), x10, x11] ∧ Xp ph H11 H2 ∧ H2 ph = some (.dK (pK M)) ∧
      CL.HInv js n g b M cur ((b.filter fun j => !(M0.map (·.2)).contains j).drop (i + 1)) ∧ m = Fl.length - CL.fixed Fl M) _ ⟨M, some st, x10, x11, rfl, xp.ex e12, e12 _ _ hM, hI.start, rfl⟩ ?_
    rintro m σ2 H2 ⟨M, cur, x10, x11, rfl, xp, hM, hI, rfl⟩
    have hF2 : H2 pf = some (.dK (pK Fl)) := xp _ _ hpf hF11
    refine ⟨(cur.bind (CL.aget Fl)).isSome, et_inN (ep_ev (ev_var rfl)) (ep_var rfl ⟨pf, rfl, hF2⟩ (stx_M Fl)), fun hb1 H3 e3 => ?_, fun hb0 H3 e3 => ?_⟩
    · obtain ⟨j, p, rfl, hp⟩ : ∃ j p, cur = some j ∧ CL.aget Fl j = some p := by
        cases cur with
        | none => cases hb1
        | some j =>
          cases hp : CL.aget Fl j with
          | none => simp [hp] at hb1
          | some p => exact ⟨j, p, rfl, hp⟩
      have small : M.length ≤ 7 := Nat.le_trans hI.mt.small hn
      have lt := CL.fixed_lt hFl hI hp
      have le := CL.fixed_le Fl (CL.aput M p j)
      refine ⟨fun σ5 H5 => ∃ M5 cur x10 x11, σ5 = [some v1, some v2, some v3, some vs2, some vt, some (.ref ph), some (.ref pf), some vf, some (nV st), some (oV cur), x10, x11] ∧ Xp ph H11 H5 ∧ H5 ph = some (.dK (pK M5)) ∧
        CL.HInv js n g b M5 cur ((b.filter fun j => !(M0.map (·.2)).contains j).drop (i + 1)) ∧ CL.fixed Fl M5 = CL.fixed Fl (CL.aput M p j), fun σ5 H5 ⟨M5, c5, y10, y11, q1, q2, q3, q4, q5⟩ => ⟨Fl.length - CL.fixed Fl M5, by rw [q5]; exact (Nat.sub_lt_sub_left (Nat.lt_of_lt_of_le lt le) lt), M5, c5, y10, y11, q1, q2, q3, q4, rfl⟩, ?_⟩
      refine pq_asg (ep_ev (ev_getK (M := Fl) (i := j) (p := p) (ep_var rfl ⟨pf, rfl, e3 _ _ hF2⟩ (stx_M Fl)) (ev_var rfl) hp)) fun vp H4 e4 hvp => ?_
      have hvp : vp = nV p := hvp
      subst hvp
      refine pq_asg (ep_ev (ev_get1 (M := M) (i := p) (ep_var rfl ⟨ph, rfl, e4 _ _ (e3 _ _ hM)⟩ (stx_M M)) (ev_var rfl))) fun vl H5 e5 hvl => ?_
      have hvl : vl = oV (CL.aget M p) := hvl
      subst hvl
      refine q_putK (M := M) (i := p) (v := j) (ev_var rfl) (ev_var rfl) (ev_var rfl) (e5 _ _ (e4 _ _ (e3 _ _ hM))) (by omega) fun H6 e6 => ?_
      refine p_asg (ep_ev (ev_var rfl)) fun vx H7 e7 hvx => ?_
      have hvx : vx = oV (CL.aget M p) := hvx
      subst hvx
      exact ⟨CL.aput M p j, CL.aget M p, _, _, rfl, ((((xp.ex e3).ex e4).ex e5).ex e6).put.ex e7, e7 _ _ upd_same, hI.step hFl hp, rfl⟩
    · refine ⟨M, _, _, _, _, rfl, xp.ex e3, e3 _ _ hM, hI.stop fun j e => ?_⟩
      subst e
      have hno : CL.aget Fl j = none := by
        cases hp : CL.aget Fl j with
        | none => rfl
        | some p => simp [hp] at hb0
      have := CL.aget_no hno
      rw [hFl.keys] at this
      exact this
  · rintro H11 σ' H' e11 ⟨M, x8, x9, x10, x11, rfl, xp, hM, hI⟩
    rw [List.drop_length] at hI
    refine p_ret (ep_sorted (M := M) (ep_var rfl ⟨ph, rfl, hM⟩ (stx_M M))) fun v H12 e12 ⟨M', hp, hs, hv⟩ => k v H12 ?_ ⟨M', hI.mt.perm hp, fun x hx => (hp.map _).mem_iff.mpr (hI.grp x hx), fun x hx => ?_, hs, hv⟩
    · exact fun a o h => e12 _ _ (xp a o (hph0 a o h) (e11 _ _ (e10 _ _ (E9 _ _ h))))
    · rcases hI.want x hx with z | z | z
      · exact (hp.map _).mem_iff.mpr z
      · cases z
      · cases z
end
end CB

/-! LW1: the bag; take. -/
namespace LW
open PySem L2 Evl CE CB CW
/-- the bag at p, its cells at l -/
def BagS (p l : Addr) (a b : Int) (c : Nat) (xs : List Int) (H : Hp) : Prop := H p = some (.lst [.int a, .int b, .int (c : Int), .ref l]) ∧ H l = some (.lst (xs.map V.int)) ∧ l ≠ p ∧ xs.length ≤ 1000
def Bag (p l : Addr) (H : Hp) : Prop := ∃ a b c xs, BagS p l a b c xs H
theorem BagS.ex {p l : Addr} {a b : Int} {c : Nat} {xs : List Int} {H H' : Hp} (h : BagS p l a b c xs H) (e : Ex H H') : BagS p l a b c xs H' := ⟨e _ _ h.1, e _ _ h.2.1, h.2.2⟩
theorem Bag.ex {p l : Addr} {H H' : Hp} (h : Bag p l H) (e : Ex H H') : Bag p l H' := let ⟨a, b, c, xs, q⟩ := h; ⟨a, b, c, xs, q.ex e⟩
theorem xp_of {p : Addr} {H H' : Hp} (e : Ex H H') : Xp p H H' := fun a o _ h => e a o h
theorem Xp.trans {p : Addr} {H H1 H2 : Hp} (x : Xp p H H1) (y : Xp p H1 H2) : Xp p H H2 := fun a o n h => y a o n (x a o n h)
/-! ### xs[i] op= e -/
def rGetL : V → V → Hp → VK → Prop := fun x y H Q => ∃ p xs i v, x = .ref p ∧ y = .int ((i : Nat) : Int) ∧ H p = some (.lst xs) ∧ xs[i]? = some v ∧ Q v H
theorem get_list {X : Cx} : PGet X rGetL := by
  intro pins s σ H o i ov iv Q I ro ri h
  obtain ⟨p, xs, k, v, rfl, rfl, hp, hk, q⟩ := h
  cases ro
  obtain ⟨t, rfl⟩ := ri
  obtain ⟨its, n, r, ho, hz⟩ := I.lst hp
  obtain ⟨u, hu, ru⟩ := r.get hk
  have hl := (List.getElem?_eq_some_iff.mp hk).1
  have hn := line63
  exact wpAny_getItem_list ⟨_, ho, rfl, n, rfl⟩ (by omega) (by omega) (by simpa using hu) ⟨v, H, I, ru, q⟩
section
variable {K : PySem.W.Frag} {σ : L2.St} {H : Hp} {D : Ends} {tz : TS} {t0 te ti : TE} {p l : Addr} {a b : Int} {c : Nat} {xs : List Int} {z : Int}
abbrev bagP (l : Addr) (a b : Int) (c : Nat) : List VP := [IsV (.int a), IsV (.int b), IsV (.int (c : Int)), IsV (.ref l)]
theorem bagP_stx {l : Addr} {a b : Int} {c : Nat} : ∀ P ∈ bagP l a b c, Stx P := fun P h => by
  simp only [bagP, List.mem_cons, List.not_mem_nil, or_false] at h
  rcases h with rfl | rfl | rfl | rfl <;> exact (stt_V _).x
theorem ep_bag (h : Ev t0 σ H (.ref p)) (hb : BagS p l a b c xs H) : EvP t0 σ H (IsL (bagP l a b c)) := fun H1 e Q q => h H1 e _ fun H2 e2 => q _ H2 e2 ⟨p, _, rfl, (e.trans e2) _ _ hb.1, rfl, rfl, rfl, rfl, trivial⟩
theorem ev_bag0 (h : Ev t0 σ H (.ref p)) (hb : BagS p l a b c xs H) : Ev (tOp (rIxL K) t0 (tC (.int 0))) σ H (.int a) := ev_ep (ep_ixL (i := 0) (ep_bag h hb) bagP_stx ev_c rfl)
theorem ev_bag1 (h : Ev t0 σ H (.ref p)) (hb : BagS p l a b c xs H) : Ev (tOp (rIxL K) t0 (tC (.int 1))) σ H (.int b) := ev_ep (ep_ixL (i := 1) (ep_bag h hb) bagP_stx ev_c rfl)
theorem ev_bag2 (h : Ev t0 σ H (.ref p)) (hb : BagS p l a b c xs H) : Ev (tOp (rIxL K) t0 (tC (.int 2))) σ H (.int (c : Int)) := ev_ep (ep_ixL (i := 2) (ep_bag h hb) bagP_stx ev_c rfl)
theorem ev_bag3 (h : Ev t0 σ H (.ref p)) (hb : BagS p l a b c xs H) : Ev (tOp (rIxL K) t0 (tC (.int 3))) σ H (.ref l) := ev_ep (ep_ixL (i := 3) (ep_bag h hb) bagP_stx ev_c rfl)
abbrev isI (z : Int) : VP := IsV (.int z)
theorem ep_cells (h : Ev t0 σ H (.ref p)) (hb : BagS p l a b c xs H) : EvP (tOp (rIxL K) t0 (tC (.int 3))) σ H (IsL (xs.map isI)) := fun H1 e Q q => ev_bag3 (K := K) h hb H1 e _ fun H2 e2 => q _ H2 e2 ⟨l, _, rfl, (e.trans e2) _ _ hb.2.1, by
  have : ∀ xs : List Int, AllP (xs.map isI) (xs.map V.int) H2 := fun xs => by
    induction xs with
    | nil => trivial
    | cons x xs ih => exact ⟨rfl, ih⟩
  exact this xs⟩
theorem s_set0 (h : Ev te σ H (.int z)) (h0 : Ev t0 σ H (.ref p)) (hb : BagS p l a b c xs H) (k : ∀ H1, Xp p H H1 → BagS p l z b c xs H1 → D.nx σ H1) : tAsg te (gSub t0 (tC (.int 0)) rSetL) D σ H :=
  h H (Ex.refl H) _ fun H1 e1 => h0 H1 e1 _ fun H2 e2 => by
    have e := e1.trans e2
    exact ⟨p, _, 0, 0, rfl, rfl, e _ _ hb.1, rfl, k _ (Xp.put (xp_of e)) ⟨upd_same, by rw [upd_ne hb.2.2.1]; exact e _ _ hb.2.1, hb.2.2⟩⟩
theorem s_set1 (h : Ev te σ H (.int z)) (h0 : Ev t0 σ H (.ref p)) (hb : BagS p l a b c xs H) (k : ∀ H1, Xp p H H1 → BagS p l a z c xs H1 → D.nx σ H1) : tAsg te (gSub t0 (tC (.int 1)) rSetL) D σ H :=
  h H (Ex.refl H) _ fun H1 e1 => h0 H1 e1 _ fun H2 e2 => by
    have e := e1.trans e2
    exact ⟨p, _, 1, 1, rfl, rfl, e _ _ hb.1, rfl, k _ (Xp.put (xp_of e)) ⟨upd_same, by rw [upd_ne hb.2.2.1]; exact e _ _ hb.2.1, hb.2.2⟩⟩
theorem s_aug2 (h0 : Ev t0 σ H (.ref p)) (hb : BagS p l a b c xs H) (k : ∀ H1, Xp p H H1 → BagS p l a b (c + 1) xs H1 → D.nx σ H1) : tAugS t0 (tC (.int 2)) (tC (.int 1)) rGetL (ipI fun i j => i + j) rSetL D σ H :=
  h0 H (Ex.refl H) _ fun H1 e1 => ⟨p, _, 2, .int (c : Int), rfl, rfl, e1 _ _ hb.1, rfl, (c : Int), 1, rfl, rfl, p, _, 2, 2, rfl, rfl, e1 _ _ hb.1, rfl, k _ (Xp.put (xp_of e1)) ⟨upd_same, by rw [upd_ne hb.2.2.1]; exact e1 _ _ hb.2.1, hb.2.2⟩⟩
end
end LW

/-! LW2: take. -/
namespace LW
open PySem L2 Evl CE CB CW
section
variable {P : Program} {w : World} {K : PySem.W.Frag} {mg : Str → Option Value} {base : Heap} {C : Addr}
/-- a promise that leaves all but the bag -/
def PrB {α : Type} (ins : α → List VP) (pre : α → Prop) (out : α → VP) : Sp := fun vs H Q _ => ∃ a p l rest, pre a ∧ vs = .ref p :: rest ∧ Bag p l H ∧ AllP (ins a) rest H ∧ ∀ v H', Xp p H H' → Bag p l H' → out a v H' → Q v H'
theorem prB_len {α : Type} {ins : α → List VP} {pre : α → Prop} {out : α → VP} {n : Nat} (h : ∀ a, (ins a).length = n) : ∀ vs H Q E, PrB ins pre out vs H Q E → vs.length = n + 1 := fun vs H Q E ⟨a, p, l, rest, _, e, _, q, _⟩ => by rw [e, List.length_cons, q.len, h a]
def rInt : List V → Hp → VK → Prop := fun xs H Q => (∃ i, xs = [.int i] ∧ Q (.int i) H) ∨ ∃ k, xs = [.bl k] ∧ Q (.int (if k then 1 else 0)) H
theorem ev_int {σ : L2.St} {H : Hp} {t : TE} {z : Int} (h : Ev t σ H (.int z)) : Ev (tCB rInt (tCons t tNil)) σ H (.int z) := fun H1 e Q q => h H1 e _ fun H2 e2 => .inl ⟨z, rfl, q H2 e2⟩
abbrev tkN : List Str := ["_law_bag_here", "_law_many", "_law_cell", "_law_mix", "_law_value", "_law_first", "_law_second"]
theorem scTake : FnScope tkN ["_law_bag_here", "_law_many"] (defScope sTake) := ⟨rfl, rfl, rfl, by decide +kernel, rfl, by decide +kernel, by decide +kernel⟩
def spTake : Sp := PrB (fun m : Nat => [IsV (nV m)]) (fun m => 0 < m ∧ m ≤ 1000000) (fun m v _ => ∃ k, v = nV k ∧ k < m)
theorem nosl {o : CmpOp} : True := trivial
theorem ok_take {f : Addr} {fd : FuncData} (F : Fun K "_law_take" "_law_take" sTake f fd) (B : Bf mg) : FnOk P w K mg base CX0 1 f fd ["_law_bag_here", "_law_many"] spTake := by
  refine F.ok (k := 0) scTake (prB_len fun _ => rfl) (fun cdv A outer s H vs Q E hr h => ?_)
  obtain ⟨m, p, l, rest, ⟨hm0, hm⟩, rfl, ⟨a, b, c, xs, hb⟩, hi, k⟩ := h
  obtain ⟨v2, rfl, h2⟩ := allP1 hi
  have h2 : v2 = nV m := h2
  subst h2
  refine ⟨_, pss_cut (ps_if (pt_cmpR op_eq (pe_ix (k_ixL K) (pv 0) pe_int (fun _ _ => rfl)) pe_int (nomark _))
      (pss_cons (ps_set (i := 2) scTake.nd rfl (Or.inl rfl) pe_int)
      (pss_cut (ps_if (pt_cmpR op_lt (pe_ix (k_ixL K) (pv 0) pe_int (fun _ _ => rfl)) (pe_b (k_len K) B.len PySem.boot_len (pa_cons (pe_ix (k_ixL K) (pv 0) pe_int (fun _ _ => rfl)) pa_nil)) (nomark _))
        (pss_one (ps_set (i := 2) scTake.nd rfl (Or.inl rfl) (pe_ix (k_ixL K) (pe_ix (k_ixL K) (pv 0) pe_int (fun _ _ => rfl)) (pe_ix (k_ixL K) (pv 0) pe_int (fun _ _ => rfl)) (fun _ _ => rfl)))) pss_nil)
      (pss_cons (ps_augS (pv 0) pe_int get_list pe_int ip_add set_list)
      (pss_cut (ps_if (pt_cmpR op_ge (pv 2) pe_int (nomark _)) (pss_one (ps_asg (pv 2) (pg_sub (pv 0) pe_int set_list))) pss_nil)
      (pss_cons (ps_set (i := 3) scTake.nd rfl (Or.inl rfl) (pe_op op_add (pe_op op_mul (pe_ix (k_ixL K) (pv 0) pe_int (fun _ _ => rfl)) pe_int) (pe_op op_mod (pe_ty call_int1 B.int PyProof.Rows.boot_int (pa_cons (pv 2) pa_nil)) pe_int)))
      (pss_one (ps_asg (pe_op op_mod (pe_ty call_int1 B.int PyProof.Rows.boot_int (pa_cons (pe_op op_add (pv 3) (pe_op op_mul pe_int (pe_ix (k_ixL K) (pv 0) pe_int (fun _ _ => rfl)))) pa_nil)) pe_int) (pg_sub (pv 0) pe_int set_list)))))))) pss_nil)
    (pss_cons (ps_if (pt_cmpR op_gt (pe_ix (k_ixL K) (pv 0) pe_int (fun _ _ => rfl)) pe_int (nomark _))
      (pss_cons (ps_set (i := 4) scTake.nd rfl (Or.inl rfl) (pe_op op_mod (pe_ty call_int1 B.int PyProof.Rows.boot_int (pa_cons (pe_ix (k_ixL K) (pv 0) pe_int (fun _ _ => rfl)) pa_nil)) (pv 1)))
      (pss_cons (ps_asg (pe_op op_fdiv (pe_ix (k_ixL K) (pv 0) pe_int (fun _ _ => rfl)) (pv 1)) (pg_sub (pv 0) pe_int set_list))
      (pss_one (ps_ret (pv 4))))) pss_nil)
    (pss_cons (ps_set (i := 5) scTake.nd rfl (Or.inl rfl) (pe_op op_mod (pe_ty call_int1 B.int PyProof.Rows.boot_int (pa_cons (pe_op op_mul (pe_op op_add (pe_ix (k_ixL K) (pv 0) pe_int (fun _ _ => rfl)) pe_int) pe_int) pa_nil)) pe_int))
    (pss_cons (ps_set (i := 6) scTake.nd rfl (Or.inl rfl) (pe_op op_mod (pe_ty call_int1 B.int PyProof.Rows.boot_int (pa_cons (pe_op op_mul (pv 5) (pv 5)) pa_nil)) pe_int))
    (pss_one (ps_ret (pe_op op_mod (pe_ty call_int1 B.int PyProof.Rows.boot_int (pa_cons (pe_op op_fdiv (pe_op op_mod (pe_ty call_int1 B.int PyProof.Rows.boot_int (pa_cons (pe_op op_mul (pv 6) pe_int) pa_nil)) pe_int) pe_int) pa_nil)) (pv 1))))))), ?_⟩
  have r0 : ∀ {σ' : L2.St} {H' : Hp}, σ'[0]? = some (some (.ref p)) → Ev (tVar 0) σ' H' (.ref p) := fun h => ev_var h
  refine q_cut (M := fun σ' H' => ∃ a b c x2 x3, σ' = [some (.ref p), some (nV m), x2, x3, none, none, none] ∧ Xp p H H' ∧ BagS p l a b c xs H') ?_ ?_
  · refine s_when (et_test (ev_op (ev_bag0 (ev_var rfl) hb) ev_c (rv_eq rfl))) (fun _ H1 e1 => ?_) fun _ H1 e1 => ⟨a, b, c, none, none, rfl, xp_of e1, hb.ex e1⟩
    refine pq_asg (ep_ev ev_c) fun v H2 e2 hv => ?_
    have hv : v = .int 0 := hv
    subst hv
    have hb2 := (hb.ex e1).ex e2
    refine q_cut (M := fun σ' H' => ∃ z : Int, σ' = [some (.ref p), some (nV m), some (.int z), none, none, none, none] ∧ Ex H2 H') ?_ ?_
    · refine s_when (b := decide ((c : Int) < ((xs.length : Nat) : Int))) (et_test (ev_op (ev_bag2 (ev_var rfl) hb2) (ev_is (ev_lenL (ep_cells (ev_var rfl) hb2)) (by rw [List.length_map])) rv_I0)) (fun hc H3 e3 => ?_) fun _ H3 e3 => ⟨0, rfl, e3⟩
      have hc := of_decide_eq_true hc
      have hlt : c < xs.length := by omega
      refine p_asg (ep_ixL (i := c) (P := isI xs[c]) (ep_cells (ev_var rfl) (hb2.ex e3)) (fun P hP => by obtain ⟨x, _, rfl⟩ := List.mem_map.mp hP; exact (stt_V _).x) (ev_bag2 (ev_var rfl) (hb2.ex e3)) (by rw [List.getElem?_map, List.getElem?_eq_getElem hlt]; rfl)) fun v H4 e4 hv => ?_
      have hv : v = .int xs[c] := hv
      subst hv
      exact ⟨xs[c], rfl, e3.trans e4⟩
    · rintro σ' H3 ⟨z, rfl, e3⟩
      refine s_aug2 (D := { nx := _, rt := _ }) (ev_var rfl) (hb2.ex e3) fun H4 x4 hb4 => ?_
      refine q_cut (M := fun σ' H' => ∃ a, σ' = [some (.ref p), some (nV m), some (.int z), none, none, none, none] ∧ Xp p H H' ∧ BagS p l a b (c + 1) xs H') ?_ ?_
      · have x0 : Xp p H H4 := Xp.trans (xp_of ((e1.trans e2).trans e3)) x4
        refine s_when (et_test (ev_op (ev_var rfl) ev_c rv_I0)) (fun _ H5 e5 => ?_) fun _ H5 e5 => ⟨a, rfl, x0.ex e5, hb4.ex e5⟩
        exact s_set0 (ev_var rfl) (ev_var rfl) (hb4.ex e5) fun H6 x6 hb6 => ⟨z, rfl, Xp.trans (x0.ex e5) x6, hb6⟩
      · rintro σ' H5 ⟨a5, rfl, x5, hb5⟩
        refine pq_asg (ep_ev (ev_op (ev_op (ev_bag1 (ev_var rfl) hb5) ev_c (rv_I (Or.inr (by decide)))) (ev_op (ev_int (ev_var rfl)) ev_c (rv_I (by decide))) rv_I0)) fun v H6 e6 hv => ?_
        obtain ⟨mx, hv⟩ : ∃ mx : Int, v = .int mx := ⟨_, hv⟩
        subst hv
        exact s_set1 (ev_op (ev_int (ev_op (ev_var rfl) (ev_op ev_c (ev_bag2 (ev_var rfl) (hb5.ex e6)) (rv_I (Or.inl (by decide)))) rv_I0)) ev_c (rv_I (by decide))) (ev_var rfl) (hb5.ex e6) fun H7 x7 hb7 => ⟨a5, _, c + 1, _, _, rfl, Xp.trans (x5.ex e6) x7, hb7⟩
  · rintro σ' H1 ⟨a1, b1, c1, x2, x3, rfl, x1, hb1⟩
    have emod : ∀ z : Int, ∃ k : Nat, (V.int (z % ((m : Nat) : Int))) = nV k ∧ k < m := fun z => by
      have h1 := Int.emod_nonneg z (show ((m : Nat) : Int) ≠ 0 by omega)
      have h2 := Int.emod_lt_of_pos z (show (0 : Int) < ((m : Nat) : Int) by omega)
      refine ⟨(z % (m : Int)).toNat, ?_, by omega⟩
      show V.int _ = V.int (((z % (m : Int)).toNat : Nat) : Int)
      rw [Int.toNat_of_nonneg h1]
    refine q_when (et_test (ev_op (ev_bag0 (ev_var rfl) hb1) ev_c rv_I0)) (fun _ H2 e2 => ?_) fun _ H2 e2 => ?_
    · refine pq_asg (ep_ev (ev_op (ev_int (ev_bag0 (ev_var rfl) (hb1.ex e2))) (ev_var rfl) (rv_I (show (0 : Int) < ((m : Nat) : Int) by omega)))) fun v H3 e3 hv => ?_
      obtain ⟨kk, e, hk⟩ := emod a1
      have hv : v = nV kk := Eq.trans hv e
      subst hv
      refine s_set0 (D := { nx := _, rt := _ }) (ev_op (ev_bag0 (ev_var rfl) ((hb1.ex e2).ex e3)) (ev_var rfl) (rv_I (show CDiv _ _ from ⟨by omega, by omega⟩))) (ev_var rfl) ((hb1.ex e2).ex e3) fun H4 x4 hb4 => ?_
      refine p_ret (ep_ev (ev_var rfl)) fun v H5 e5 hv => ?_
      have hv : v = nV kk := hv
      subst hv
      exact k _ H5 ((Xp.trans ((x1.ex e2).ex e3) x4).ex e5) ⟨_, _, _, _, hb4.ex e5⟩ ⟨kk, rfl, hk⟩
    · refine pq_asg (ep_ev (ev_op (ev_int (ev_op (ev_op (ev_bag1 (ev_var rfl) (hb1.ex e2)) ev_c rv_I0) ev_c (rv_I (Or.inr (by decide))))) ev_c (rv_I (by decide)))) fun v H3 e3 hv => ?_
      have hv : v = .int ((b1 + 1) * 39373 % 1000000007) := hv
      have q1 := Int.emod_nonneg ((b1 + 1) * 39373) (show (1000000007 : Int) ≠ 0 by decide)
      have q2 := Int.emod_lt_of_pos ((b1 + 1) * 39373) (show (0 : Int) < 1000000007 by decide)
      generalize (b1 + 1) * 39373 % 1000000007 = fi at hv q1 q2
      subst hv
      refine pq_asg (ep_ev (ev_op (ev_int (ev_op (ev_var rfl) (ev_var rfl) (rv_I (show CMul fi fi from Or.inl ⟨by omega, by omega⟩)))) ev_c (rv_I (by decide)))) fun v H4 e4 hv => ?_
      have hv : v = .int (fi * fi % 998244353) := hv
      generalize fi * fi % 998244353 = se at hv
      subst hv
      refine p_ret (ep_ev (ev_op (ev_int (ev_op (ev_op (ev_int (ev_op (ev_var rfl) ev_c (rv_I (Or.inr (by decide))))) ev_c (rv_I (by decide))) ev_c (rv_I (show CDiv _ _ from ⟨by decide, by decide⟩)))) (ev_var rfl) (rv_I (show (0 : Int) < ((m : Nat) : Int) by omega)))) fun v H5 e5 hv => ?_
      obtain ⟨kk, e, hk⟩ := emod (se * 30011 % 998244353 / 7)
      have e6 := ((e2.trans e3).trans e4).trans e5
      exact k _ H5 (x1.ex e6) ⟨_, _, _, _, hb1.ex e6⟩ ⟨kk, Eq.trans hv e, hk⟩
end
end LW

/-! LW3: what stays while the bag changes; one, some, job. -/
namespace LW
open PySem L2 Evl CE CB CW
/-- it stays while the bag changes -/
def Stb (P : VP) : Prop := ∀ p l v H H', Bag p l H → Xp p H H' → P v H → P v H'
theorem bag_ne {p l a : Addr} {H : Hp} {o : HO} (hb : Bag p l H) (h : H a = some o) (hn : ∀ l a b c, o ≠ .lst [.int a, .int b, .int c, .ref l]) : a ≠ p := fun z => by
  obtain ⟨a', b, c, xs, q⟩ := hb
  rw [z, q.1] at h
  exact hn l a' b c (Option.some.inj h).symm
theorem tx_xp {p l : Addr} {H H' : Hp} (hb : Bag p l H) (x : Xp p H H') : Tx H H' := fun a xs h => x a _ (bag_ne hb h fun _ _ _ _ z => by cases z) h
theorem stb_of {P : VP} (s : Stt P) : Stb P := fun p l v H H' hb x h => s v H H' (tx_xp hb x) h
theorem stb_N (g : List Nat) : Stb (IsN g) := fun p l v H H' hb x ⟨a, hv, ha⟩ => ⟨a, hv, x a _ (bag_ne hb ha fun l' a b c z => by
  have z := HO.lst.inj z
  match g, z with
  | [_, _, _, d], z => cases z) ha⟩
theorem stb_Gs (L : List (List Nat)) : Stb (IsGs L) := fun p l v H H' hb x ⟨a, xs, hv, ha, hx⟩ => ⟨a, xs, hv, x a _ (bag_ne hb ha fun l' a b c z => by
  have z := HO.lst.inj z
  subst z
  match L, hx with
  | g :: _, hx =>
    obtain ⟨⟨y, hy, _⟩, _⟩ := hx
    cases hy) ha, by
  have := tx_xp hb x
  exact hx.tx this all_G⟩
theorem stb_J (C : Addr) (n : Nat) (js : List (List Nat)) : Stb (IsJ C n js) := fun p l v H H' hb x ⟨a, dx, t, hv, ha, ht⟩ => ⟨a, dx, t, hv, x a _ (bag_ne hb ha fun _ _ _ _ z => by cases z) ha, stt_TG js _ _ _ (tx_xp hb x) ht⟩
/-- an expression that may draw from the bag -/
def RdB (te : TE) (σ : L2.St) (H : Hp) (p l : Addr) (P : VP) : Prop := ∀ Q : VK, (∀ v H', Xp p H H' → Bag p l H' → P v H' → Q v H') → te σ H Q
section
variable {K : PySem.W.Frag} {σ : L2.St} {H : Hp} {D : Ends} {tz : TS} {t0 te : TE} {tr : TA} {p l : Addr} {P : VP} {E : XK}
theorem rdb_of (h : EvP te σ H P) (hb : Bag p l H) : RdB te σ H p l P := fun Q q => h H (Ex.refl H) Q fun v H1 e r => q v H1 (xp_of e) (hb.ex e) r
theorem eb_call {α : Type} {ins : α → List VP} {pre : α → Prop} {out : α → VP} (a : α) (h0 : Ev t0 σ H (.ref p)) (hb : Bag p l H) (ht : EvAP tr σ H (ins a)) (hp : pre a) : RdB (tCall (PrB ins pre out) [] E (tCons t0 tr)) σ H p l (out a) := fun Q q =>
  h0 H (Ex.refl H) _ fun H1 e1 => ht H1 e1 _ fun vs H2 e2 hvs => by
    show PrB ins pre out ((V.ref p :: vs) ++ []) H2 Q E
    rw [List.append_nil]
    have e := e1.trans e2
    exact ⟨a, p, l, vs, hp, rfl, hb.ex e, hvs, fun v H' x b r => q v H' (Xp.trans (xp_of e) x) b r⟩
theorem q_asgB {i : Nat} (h : RdB te σ H p l P) (k : ∀ v H1, Xp p H H1 → Bag p l H1 → P v H1 → tz D (σ.set i (some v)) H1) : tSeq (tAsg te (gName i)) tz D σ H := h _ k
theorem s_asgB {i : Nat} (h : RdB te σ H p l P) (k : ∀ v H1, Xp p H H1 → Bag p l H1 → P v H1 → D.nx (σ.set i (some v)) H1) : tAsg te (gName i) D σ H := h _ k
theorem s_retB (h : RdB te σ H p l P) (k : ∀ v H1, Xp p H H1 → Bag p l H1 → P v H1 → D.rt v H1) : tRet te D σ H := h _ k
theorem use_take {t1 : TE} {m : Nat} (h0 : Ev t0 σ H (.ref p)) (hb : Bag p l H) (h1 : Ev t1 σ H (nV m)) (hm0 : 0 < m) (hm : m ≤ 1000000) : RdB (tCall spTake [] E (tCons t0 (tCons t1 tNil))) σ H p l (fun v _ => ∃ k, v = nV k ∧ k < m) := by
  unfold spTake
  exact eb_call (out := fun (m : Nat) v (_ : Hp) => ∃ k, v = nV k ∧ k < m) m h0 hb (eap_cons (ep_ev h1) (stt_V _).x eap_nil) ⟨hm0, hm⟩
end
section
variable {P : Program} {w : World} {K : PySem.W.Frag} {mg : Str → Option Value} {base : Heap} {C : Addr}
/-! ### one -/
def spOne : Sp := PrB (fun Ps : List VP => [IsL Ps]) (fun Ps => Ps ≠ [] ∧ Ps.length ≤ 1000000 ∧ Stb (IsL Ps) ∧ ∀ P ∈ Ps, Stx P) (fun Ps v H => ∃ P ∈ Ps, P v H)
theorem scOne : FnScope ["_law_bag_here", "_law_things"] ["_law_bag_here", "_law_things"] (defScope sOne) := ⟨rfl, rfl, rfl, by decide +kernel, rfl, by decide +kernel, by decide +kernel⟩
theorem ok_one {f : Addr} {fd : FuncData} (F : Fun K "_law_one" "_law_one" sOne f fd) (B : Bf mg) (CT : Cal P w K mg base 1 "_law_take" ["_law_bag_here", "_law_many"] spTake) : FnOk P w K mg base CX0 2 f fd ["_law_bag_here", "_law_things"] spOne := by
  refine F.ok (k := 1) scOne (prB_len fun _ => rfl) (fun cdv A outer s H vs Q E hr h => ?_)
  obtain ⟨Ps, p, l, rest, ⟨hne, hl, hst, hsx⟩, rfl, hb, hi, k⟩ := h
  obtain ⟨v2, rfl, h2⟩ := allP1 hi
  refine ⟨_, pss_one (ps_ret (pe_ix (k_ixL K) (pv 1) (pe_fn CT hr (pa_cons (pv 0) (pa_cons (pe_b (k_len K) B.len PySem.boot_len (pa_cons (pv 1) pa_nil)) pa_nil))) (fun _ _ => rfl))), ?_⟩
  have hlen : 0 < Ps.length := List.length_pos_iff.mpr hne
  refine ⟨v2, rfl, ?_⟩
  refine use_take (p := p) (m := Ps.length) (ev_var rfl) hb (ev_lenL (ep_var rfl h2 (stx_L hsx))) hlen hl _ fun v H1 x hb1 ⟨kk, hv, hk⟩ => ?_
  subst hv
  obtain ⟨a, xs, hv, ha, hx⟩ := hst p l v2 H H1 hb x h2
  subst hv
  obtain ⟨y, hy, hP⟩ := hx.get (List.getElem?_eq_getElem hk)
  exact ⟨a, xs, (kk : Int), y, rfl, rfl, sq_of ha, atI_nat hy, k y H1 x hb1 ⟨_, List.getElem_mem hk, hP⟩⟩
theorem use_one {σ : L2.St} {H : Hp} {E : XK} {t0 t1 : TE} {p l : Addr} {Ps : List VP} (h0 : Ev t0 σ H (.ref p)) (hb : Bag p l H) (h1 : EvP t1 σ H (IsL Ps)) (hne : Ps ≠ []) (hl : Ps.length ≤ 1000000) (hst : Stb (IsL Ps)) (hsx : ∀ P ∈ Ps, Stx P) :
    RdB (tCall spOne [] E (tCons t0 (tCons t1 tNil))) σ H p l (fun v H => ∃ P ∈ Ps, P v H) := by
  unfold spOne
  exact eb_call (out := fun (Ps : List VP) v H => ∃ P ∈ Ps, P v H) Ps h0 hb (eap_cons h1 (stx_L hsx) eap_nil) ⟨hne, hl, hst, hsx⟩
/-! ### some -/
def spSome : Sp := PrB (fun g : List Nat => [IsN g]) (fun g => g.length ≤ 1000) (fun g v H => ∃ g', g'.Sublist g ∧ IsN g' v H)
theorem scSome : FnScope ["_law_bag_here", "_law_things", "_law_one_here"] ["_law_bag_here", "_law_things"] (defScope sSome) := ⟨rfl, rfl, rfl, by decide +kernel, rfl, by decide +kernel, by decide +kernel⟩
theorem ok_some {f : Addr} {fd : FuncData} (F : Fun K "_law_some" "_law_some" sSome f fd) (B : Bf mg) (CT : Cal P w K mg base 1 "_law_take" ["_law_bag_here", "_law_many"] spTake) : FnOk P w K mg base CX0 3 f fd ["_law_bag_here", "_law_things"] spSome := by
  refine F.ok (k := 2) scSome (prB_len fun _ => rfl) (fun cdv A outer s H vs Q E hr h => ?_)
  obtain ⟨g, p, l, rest, hg, rfl, hb, hi, k⟩ := h
  obtain ⟨v2, rfl, h2⟩ := allP1 hi
  have hg : g.length ≤ 1000 := hg
  refine ⟨_, pss_one (ps_ret (pe_lc (own := [("_law_one_here", 2)]) (g := gName 2) (tt := tTest (tOp rEq (tCall spTake [] E0 (tCons (tVar 0) (tCons (tC (.int 2)) tNil))) (tC (.int 1)))) rfl scSome.nd (k_pil K (pv 1)) (blkOk_by (by kernel_rfl)) (fun _ _ _ _ _ => pg_name (i := 2) scSome.nd rfl (Or.inl rfl))
    (fun _ _ _ _ _ => pts_one (pt_cmpR op_eq (pe_fn CT (hr.mono (by omega)) (pa_cons (pv 0) (pa_cons pe_int pa_nil))) pe_int (nomark _))) (fun _ _ _ _ _ => pv 2))), ?_⟩
  obtain ⟨a, hv, ha⟩ := h2
  subst hv
  have hap : a ≠ p := fun z => by
    obtain ⟨a', b, c, xs, q⟩ := hb
    rw [z, q.1] at ha
    have z := HO.lst.inj (Option.some.inj ha)
    match g, z with
    | [_, _, _, d], z => cases z
  refine ⟨.ref a, rfl, a, rfl, ⟨_, sq_of ha⟩, fun Dl hD => ?_⟩
  have hDp : Dl ≠ p := fun z => by
    obtain ⟨a', b, c, xs, q⟩ := hb
    rw [z, q.1] at hD; cases hD
  have hDa : Dl ≠ a := fun z => by rw [z, ha] at hD; cases hD
  refine lc_list (xs := eN g) (fun i H' => ∃ g', g'.Sublist (g.take i) ∧ H' Dl = some (.lst (eN g')) ∧ Xp p H H' ∧ Bag p l H') ⟨[], by simp, upd_same, fun b o _ h => by rw [upd_ne (fun z => by rw [z, hD] at h; cases h)]; exact h, hb.ex (Ex.new hD)⟩
    (fun i H' _ ⟨_, _, _, x, _⟩ => sq_of (x a _ hap ha)) (fun i x H' hi ⟨g', hs, hd, xp, hb'⟩ => ⟨rfl, ?_⟩) (fun H' ⟨g', hs, hd, xp, hb'⟩ => k _ H' xp hb' ⟨g', ?_, Dl, rfl, hd⟩)
  · rw [List.getElem?_map] at hi
    obtain ⟨y, hy, hx⟩ := Option.map_eq_some_iff.mp hi
    have htk : g.take (i + 1) = g.take i ++ [y] := by rw [List.take_add_one, hy]; rfl
    refine use_take (p := p) (m := 2) (ev_var rfl) hb' ev_c (by decide) (by decide) _ fun v H1 x1 hb1 ⟨kk, hv, hk⟩ => ?_
    subst hv
    refine ⟨rfl, _, rfl, ?_⟩
    have hd1 : H1 Dl = some (.lst (eN g')) := x1 _ _ hDp hd
    have hgl : g'.length ≤ 1000 := Nat.le_trans hs.length_le (by rw [List.length_take]; omega)
    cases hdec : decide (nV kk = V.int 1) with
    | true =>
      show (if true = true then _ else _)
      rw [if_pos rfl]
      refine ⟨x, rfl, eN g', hd1, by rw [List.length_map]; exact Nat.lt_of_le_of_lt hgl (by decide), g' ++ [y], ?_, ?_, ?_, ?_⟩
      · rw [htk]
        exact hs.append (List.Sublist.refl _)
      · rw [upd_same, ← hx]
        show some (HO.lst (eN g' ++ eN [y])) = some (HO.lst (eN (g' ++ [y])))
        rw [← List.map_append]
      · exact fun b o hbp h => by
          have := x1 _ _ hbp (xp b o hbp h)
          rw [upd_ne (fun z => by rw [z, hD] at h; cases h)]
          exact this
      · obtain ⟨a', b, c, xs, q⟩ := hb1
        refine ⟨a', b, c, xs, ?_, ?_, q.2.2⟩
        · rw [upd_ne (Ne.symm hDp)]; exact q.1
        · rw [upd_ne (fun z => ?_)]
          · exact q.2.1
          · obtain ⟨_, _, _, _, q0⟩ := hb
            have := q0.2.1
            rw [z, hD] at this; cases this
    | false =>
      show (if false = true then _ else _)
      rw [if_neg Bool.false_ne_true]
      exact ⟨g', by rw [htk]; exact hs.trans (List.sublist_append_left _ _), hd1, Xp.trans xp x1, hb1⟩
  · have : (eN g).length = g.length := List.length_map _
    rw [this, List.take_length] at hs
    exact hs
end
end LW

/-! LW4: job, jobs. -/
namespace CL
theorem sub_range {n : Nat} {g : List Nat} (h : g.Sublist (List.range n)) : Grp n g := ⟨List.Pairwise.sublist h (asc_range n), fun x hx => List.mem_range.mp (h.subset hx)⟩
end CL
namespace LW
open PySem L2 Evl CE CB CW
theorem bag_upd {p l q : Addr} {H : Hp} {o : HO} (h : Bag p l H) (h1 : q ≠ p) (h2 : q ≠ l) : Bag p l (upd H q o) := by
  obtain ⟨a, b, c, xs, z⟩ := h
  refine ⟨a, b, c, xs, ?_, ?_, z.2.2⟩
  · rw [upd_ne (Ne.symm h1)]; exact z.1
  · rw [upd_ne (Ne.symm h2)]; exact z.2.1
/-- a test that may draw from the bag -/
def TdB (tt : TT) (σ : L2.St) (H : Hp) (p l : Addr) (R : Bool → Prop) : Prop := ∀ Q : Bool → Hp → Prop, (∀ b H1, Xp p H H1 → Bag p l H1 → R b → Q b H1) → tt σ H Q
section
variable {K : PySem.W.Frag} {σ : L2.St} {H : Hp} {D : Ends} {tz ta tb : TS} {t u : TT} {t0 te : TE} {p l : Addr} {P : VP} {E : XK} {R : Bool → Prop}
theorem td_take {t1 : TE} {m : Nat} {z : Int} (h0 : Ev t0 σ H (.ref p)) (hb : Bag p l H) (h1 : Ev t1 σ H (nV m)) (hm0 : 0 < m) (hm : m ≤ 1000000) : TdB (tTest (tOp rEq (tCall spTake [] E (tCons t0 (tCons t1 tNil))) (tC (.int z)))) σ H p l (fun _ => True) := fun Q q =>
  use_take h0 hb h1 hm0 hm _ fun v H1 x hb1 ⟨k, hv, hk⟩ => by
    subst hv
    exact ⟨rfl, _, rfl, q _ H1 x hb1 trivial⟩
theorem td_and {a : Bool} (h1 : EvT t σ H a) (h2 : a = true → ∀ H1, Ex H H1 → TdB u σ H1 p l (fun _ => True)) (hb : Bag p l H) : TdB (tAnd t u) σ H p l (fun b => b = true → a = true) := fun Q q =>
  h1 H (Ex.refl H) _ fun H1 e1 => by
    cases a with
    | true => exact h2 rfl H1 e1 _ fun b H2 x hb2 _ => q b H2 (Xp.trans (xp_of e1) x) hb2 fun _ => rfl
    | false => exact q false H1 (xp_of e1) (hb.ex e1) fun z => by cases z
theorem s_ifB (h : TdB t σ H p l R) (h1 : R true → ∀ H1, Xp p H H1 → Bag p l H1 → ta D σ H1) (h2 : R false → ∀ H1, Xp p H H1 → Bag p l H1 → tb D σ H1) : tIfS t ta tb D σ H := h _ fun b H1 x hb r => by
  cases b with
  | true => exact h1 r H1 x hb
  | false => exact h2 r H1 x hb
theorem s_appB {q : Addr} {ys : List V} (h0 : Ev t0 σ H (.ref q)) (h : ∀ H1, Ex H H1 → RdB te σ H1 p l P) (hq : H q = some (.lst ys)) (hz : ys.length ≤ 1000) (hqp : q ≠ p) (k : ∀ v H1, Xp p H H1 → Bag p l H1 → P v H1 → H1 q = some (.lst ys) → D.nx σ (upd H1 q (.lst (ys ++ [v])))) :
    tDrop (tBM K "list" rAppend t0 (tCons te tNil)) D σ H := h0 H (Ex.refl H) _ fun H1 e1 => ⟨.inl ⟨rfl, ys, sq_of (e1 _ _ hq)⟩, h H1 e1 _ fun v H2 x hb hv => by
  have hq2 := x _ _ hqp (e1 _ _ hq)
  exact ⟨q, ys, v, rfl, rfl, hq2, Nat.lt_of_le_of_lt hz (by decide), k v H2 (Xp.trans (xp_of e1) x) hb hv hq2⟩⟩
theorem use_some {t1 : TE} {g : List Nat} (h0 : Ev t0 σ H (.ref p)) (hb : Bag p l H) (h1 : EvP t1 σ H (IsN g)) (hg : g.length ≤ 1000) : RdB (tCall spSome [] E (tCons t0 (tCons t1 tNil))) σ H p l (fun v H => ∃ g', g'.Sublist g ∧ IsN g' v H) := by
  unfold spSome
  exact eb_call (ins := fun g : List Nat => [IsN g]) (pre := fun g : List Nat => g.length ≤ 1000) (out := fun (g : List Nat) v H => ∃ g', g'.Sublist g ∧ IsN g' v H) g h0 hb (eap_cons h1 (stx_N g) eap_nil) hg
end
section
variable {P : Program} {w : World} {K : PySem.W.Frag} {mg : Str → Option Value} {base : Heap} {C : Addr}
/-! ### job -/
def spJob : Sp := PrB (fun n : Nat => [IsV (nV n)]) (fun n => n ≤ 7) (fun n v H => ∃ g, CL.Grp n g ∧ IsG g v H)
abbrev jN : List Str := ["_law_bag_here", "_law_size", "_law_way", "_law_job_here"]
theorem scJob : FnScope jN ["_law_bag_here", "_law_size"] (defScope sJob) := ⟨rfl, rfl, rfl, by decide +kernel, rfl, by decide +kernel, by decide +kernel⟩
theorem ok_job {f : Addr} {fd : FuncData} (F : Fun K "_law_job" "_law_job" sJob f fd) (B : Bf mg) (CT : Cal P w K mg base 1 "_law_take" ["_law_bag_here", "_law_many"] spTake) (CS : Cal P w K mg base 3 "_law_some" ["_law_bag_here", "_law_things"] spSome) : FnOk P w K mg base CX0 4 f fd ["_law_bag_here", "_law_size"] spJob := by
  refine F.ok (k := 3) scJob (prB_len fun _ => rfl) (fun cdv A outer s H vs Q E hr h => ?_)
  obtain ⟨n, p, l, rest, hn, rfl, hb, hi, k⟩ := h
  obtain ⟨v2, rfl, h2⟩ := allP1 hi
  have h2 : v2 = nV n := h2
  subst h2
  have hn : n ≤ 7 := hn
  refine ⟨_, pss_cons (ps_set (i := 2) scJob.nd rfl (Or.inl rfl) (pe_fn CT (hr.mono (by omega)) (pa_cons (pv 0) (pa_cons pe_int pa_nil))))
    (pss_cons (ps_if (pt_cmpR op_eq (pv 2) pe_int (nomark _)) (pss_one (ps_ret (pe_tupRg rfl (by rfl) B.tuple (prg_1 (by rfl) B.range (pv 1))))) pss_nil)
    (pss_cons (ps_set (i := 3) scJob.nd rfl (Or.inl rfl) (pe_fn CS hr (pa_cons (pv 0) (pa_cons (pe_listRg rfl (by rfl) B.list (prg_1 (by rfl) B.range (pv 1))) pa_nil))))
    (pss_cut (ps_if (pt_cmpR op_lt (pv 2) pe_int (nomark _)) (pss_one (ps_set (i := 3) scJob.nd rfl (Or.inl rfl) (pe_fn CS hr (pa_cons (pv 0) (pa_cons (pv 3) pa_nil))))) pss_nil)
    (pss_one (ps_ret (pe_ty (k_tup K) B.tuple PyProof.Rows.boot_tuple (pa_cons (pv 3) pa_nil))))))), ?_⟩
  refine q_asgB (use_take (m := 6) (ev_var rfl) hb ev_c (by decide) (by decide)) fun v H1 x1 hb1 ⟨kk, hv, hk⟩ => ?_
  subst hv
  refine q_when (et_test (ev_op (ev_var rfl) ev_c (rv_eq rfl))) (fun _ H2 e2 => ?_) fun _ H2 e2 => ?_
  · exact p_ret (ep_tupRg (ev_var rfl) (by omega)) fun v H3 e3 hv => k v H3 (x1.ex (e2.trans e3)) (hb1.ex (e2.trans e3)) ⟨_, CL.asc_rng n, hv⟩
  · refine q_asgB (use_some (g := List.range n) (ev_var rfl) (hb1.ex e2) (ep_lstRg (ev_var rfl) (by omega)) (by simp; omega)) fun v H3 x3 hb3 ⟨g, hg, hv⟩ => ?_
    have X3 := Xp.trans (x1.ex e2) x3
    refine q_cut (M := fun σ' H' => ∃ g v, g.Sublist (List.range n) ∧ σ' = [some (.ref p), some (nV n), some (nV kk), some v] ∧ IsN g v H' ∧ Xp p H H' ∧ Bag p l H') ?_ ?_
    · refine s_when (et_test (ev_op (ev_var rfl) ev_c rv_I0)) (fun _ H4 e4 => ?_) fun _ H4 e4 => ⟨g, v, hg, rfl, stx_N g _ _ _ e4 hv, X3.ex e4, hb3.ex e4⟩
      have hgl : g.length ≤ n := by have := hg.length_le; simpa using this
      refine s_asgB (use_some (g := g) (ev_var rfl) (hb3.ex e4) (ep_var rfl (stx_N g _ _ _ e4 hv) (stx_N g)) (by omega)) fun v H5 x5 hb5 ⟨g', hg', hv'⟩ => ⟨g', v, hg'.trans hg, rfl, hv', Xp.trans (X3.ex e4) x5, hb5⟩
    · rintro σ' H4 ⟨g, v, hg, rfl, hv, x4, hb4⟩
      exact p_ret (ep_tupN (g := g) (ep_var rfl hv (stx_N g))) fun v H5 e5 hv5 => k v H5 (x4.ex e5) (hb4.ex e5) ⟨g, CL.sub_range hg, hv5⟩
theorem use_job {σ : L2.St} {H : Hp} {E : XK} {t0 t1 : TE} {p l : Addr} {n : Nat} (h0 : Ev t0 σ H (.ref p)) (hb : Bag p l H) (h1 : Ev t1 σ H (nV n)) (hn : n ≤ 7) : RdB (tCall spJob [] E (tCons t0 (tCons t1 tNil))) σ H p l (fun v H => ∃ g, CL.Grp n g ∧ IsG g v H) := by
  unfold spJob
  exact eb_call (ins := fun n : Nat => [IsV (nV n)]) (pre := fun n : Nat => n ≤ 7) (out := fun (n : Nat) v H => ∃ g, CL.Grp n g ∧ IsG g v H) n h0 hb (eap_cons (ep_ev h1) (stt_V _).x eap_nil) hn
/-! ### jobs -/
def spJobs : Sp := PrB (fun a : Nat × Nat => [IsV (nV a.1), IsV (nV a.2)]) (fun a => a.1 ≤ 7 ∧ a.2 ≤ 7) (fun a v H => ∃ js, js.length ≤ a.2 ∧ CL.WF a.1 js ∧ IsGs js v H)
abbrev jsN : List Str := ["_law_bag_here", "_law_size", "_law_most", "_law_jobs_here", "_law_k"]
theorem scJobs : FnScope jsN ["_law_bag_here", "_law_size", "_law_most"] (defScope sLJobs) := ⟨rfl, rfl, rfl, by decide +kernel, rfl, by decide +kernel, by decide +kernel⟩
theorem ok_ljobs {f : Addr} {fd : FuncData} (F : Fun K "_law_jobs" "_law_jobs" sLJobs f fd) (B : Bf mg) (CT : Cal P w K mg base 1 "_law_take" ["_law_bag_here", "_law_many"] spTake) (C1 : Cal P w K mg base 2 "_law_one" ["_law_bag_here", "_law_things"] spOne) (CJ : Cal P w K mg base 4 "_law_job" ["_law_bag_here", "_law_size"] spJob) :
    FnOk P w K mg base CX0 5 f fd ["_law_bag_here", "_law_size", "_law_most"] spJobs := by
  refine F.ok (k := 4) scJobs (prB_len fun _ => rfl) (fun cdv A outer s H vs Q E hr h => ?_)
  obtain ⟨⟨n, m⟩, p, l, rest, ⟨hn, hm⟩, rfl, hb, hi, k⟩ := h
  obtain ⟨v2, v3, rfl, h2, h3⟩ := allP2 hi
  have h2 : v2 = nV n := h2
  have h3 : v3 = nV m := h3
  subst h2 h3
  have hn : n ≤ 7 := hn
  have hm : m ≤ 7 := hm
  have hu := hr.units
  refine ⟨_, pss_cons (ps_set (i := 3) scJobs.nd rfl (Or.inl rfl) (pe_lst pa_nil))
    (pss_cons (ps_for PassesOwn.never rfl (pi_range1 (by rfl) B.range (pa_cons (pe_fn CT (hr.mono (by omega)) (pa_cons (pv 0) (pa_cons (pe_op op_add (pv 2) pe_int) pa_nil))) pa_nil)) (pg_name (i := 4) scJobs.nd rfl (Or.inl rfl))
      (pss_one (ps_if (PW.pt (pw_and (pt_cmpR (k_neD K hu) (pv 3) (pe_lst pa_nil) (nomark _)) (pw_and1 (pt_cmpR op_eq (pe_fn CT (hr.mono (by omega)) (pa_cons (pv 0) (pa_cons pe_int pa_nil))) pe_int (nomark _)))))
        (pss_one (ps_expr (pe_bm PySem.F.plainAttrs_list PySem.F.slot_list_append PySem.F.type_list_append mt_append (pv 3) (pa_cons (pe_fn C1 (hr.mono (by omega)) (pa_cons (pv 0) (pa_cons (pv 3) pa_nil))) pa_nil))))
        (pss_one (ps_expr (pe_bm PySem.F.plainAttrs_list PySem.F.slot_list_append PySem.F.type_list_append mt_append (pv 3) (pa_cons (pe_fn CJ hr (pa_cons (pv 0) (pa_cons (pv 1) pa_nil))) pa_nil)))))))
    (pss_one (ps_ret (pv 3)))), ?_⟩
  refine ⟨Nat.zero_le _, fun q hq => ?_⟩
  have hqp : q ≠ p := by
    obtain ⟨_, _, _, _, z⟩ := hb
    intro y
    rw [y, z.1] at hq; cases hq
  have hql : q ≠ l := by
    obtain ⟨_, _, _, _, z⟩ := hb
    intro y
    rw [y, z.2.1] at hq; cases hq
  have off : ∀ a o, H a = some o → a ≠ q := fun a o h z => by rw [z, hq] at h; cases h
  have hb1 := hb.ex (Ex.new (o := .lst []) hq)
  refine use_take (m := m + 1) (ev_var rfl) hb1 (ev_is (ev_op (ev_var rfl) ev_c (rv_I0 (i := (m : Int)) (j := 1))) (by simp)) (by omega) (by omega) _ fun v H2 x2 hb2 ⟨kk, hv, hk⟩ => ?_
  subst hv
  have h0q : H2 q = some (.lst []) := x2 _ _ hqp upd_same
  refine ⟨(kk : Int), rfl, by omega, by omega, for_range (lo := 0) (n := kk) (fun i σ' H' => ∃ js ys x4, σ' = [some (.ref p), some (nV n), some (nV m), some (.ref q), x4] ∧ Xp p H H' ∧ Bag p l H' ∧ H' q = some (.lst ys) ∧ AllP (js.map IsG) ys H' ∧ js.length = i ∧ CL.WF n js)
    ?_ ?_ ?_⟩
  · exact ⟨[], [], none, rfl, fun a o ha h => x2 a o ha (by rw [upd_ne (off a o h)]; exact h), hb2, h0q, trivial, rfl, fun g hg => by cases hg⟩
  · rintro i σ' H' hi ⟨js, ys, x4, rfl, xp, hb', hq', hys, hlen, hwf⟩
    have hyl : ys.length = js.length := by have := hys.len; rwa [List.length_map] at this
    have grow : ∀ H5 v g x5, Xp p H' H5 → Bag p l H5 → H5 q = some (.lst ys) → IsG g v H5 → CL.Grp n g →
        ∃ js ys' x4, [some (V.ref p), some (nV n), some (nV m), some (V.ref q), x5] = [some (.ref p), some (nV n), some (nV m), some (.ref q), x4] ∧ Xp p H (upd H5 q (.lst (ys ++ [v]))) ∧ Bag p l (upd H5 q (.lst (ys ++ [v]))) ∧ upd H5 q (.lst (ys ++ [v])) q = some (.lst ys') ∧ AllP (js.map IsG) ys' (upd H5 q (.lst (ys ++ [v]))) ∧ js.length = i + 1 ∧ CL.WF n js := fun H5 v g x5 y5 hb5 hq5 hv hg => by
      refine ⟨js ++ [g], ys ++ [v], x5, rfl, fun a o ha h => by rw [upd_ne (off a o h)]; exact y5 a o ha (xp a o ha h), bag_upd hb5 hqp hql, upd_same, ?_, by simp [hlen], fun z hz => ?_⟩
      · have t5 := tx_xp hb' y5
        have t6 : Tx H5 (upd H5 q (.lst (ys ++ [v]))) := tx_lst hq5
        rw [List.map_append]
        exact (hys.tx (t5.trans t6) all_G).app ⟨stt_G g _ _ _ t6 hv, trivial⟩
      · rcases List.mem_append.mp hz with z1 | z1
        · exact hwf z z1
        · rw [List.mem_singleton.mp z1]; exact hg
    refine s_ifB (td_and (a := !decide (js = [])) (et_test (ev_neGs (ep_var rfl (show IsGs js (.ref q) H' from ⟨q, ys, rfl, hq', hys⟩) (stx_Gs js)) isGs_nil)) (fun _ H3 e3 => td_take (m := 5) (ev_var rfl) (hb'.ex e3) ev_c (by decide) (by decide)) hb') (fun r H3 x3 hb3 => ?_) (fun _ H3 x3 hb3 => ?_)
    · have hne : js ≠ [] := by
        have := r rfl
        simpa using this
      have hq3 := x3 _ _ hqp hq'
      refine s_appB (ev_var rfl) (fun H4 e4 => use_one (Ps := js.map IsG) (ev_var rfl) (hb3.ex e4) (ep_var rfl (show IsGs js (.ref q) H4 from ⟨q, ys, rfl, e4 _ _ hq3, hys.tx ((tx_xp hb' x3).trans (tx_of e4)) all_G⟩) (stx_Gs js)) (fun z => hne (List.map_eq_nil_iff.mp z)) (by rw [List.length_map]; omega) (stb_Gs js) (fun P hP => (all_G P hP).x)) hq3 (by omega) hqp fun v H5 x5 hb5 ⟨P, hP, hv⟩ hq5 => ?_
      obtain ⟨g, hg, rfl⟩ := List.mem_map.mp hP
      exact grow H5 v g _ (Xp.trans x3 x5) hb5 hq5 hv (hwf g hg)
    · have hq3 := x3 _ _ hqp hq'
      refine s_appB (ev_var rfl) (fun H4 e4 => use_job (ev_var rfl) (hb3.ex e4) (ev_var rfl) hn) hq3 (by omega) hqp fun v H5 x5 hb5 ⟨g, hg, hv⟩ hq5 => ?_
      exact grow H5 v g _ (Xp.trans x3 x5) hb5 hq5 hv hg
  · rintro σ' H' ⟨js, ys, x4, rfl, xp, hb', hq', hys, hlen, hwf⟩
    exact p_ret (ep_var rfl (show IsGs js (.ref q) H' from ⟨q, ys, rfl, hq', hys⟩) (stx_Gs js)) fun v H5 e5 hv => k v H5 (xp.ex e5) (hb'.ex e5) ⟨js, by show js.length ≤ m; omega, hwf, hv⟩
end
end LW

/-! LW5: the law's own groups. -/
namespace CL
theorem more_len (n : Nat) (g : List Nat) : (more n g).length ≤ n := by
  unfold more
  rw [List.length_map]
  exact Nat.le_trans (List.length_filter_le _ _) (by rw [List.length_range]; exact Nat.le_refl _)
theorem flat_len (n : Nat) : ∀ L : List (List Nat), (L.flatMap (more n)).length ≤ L.length * n
  | [] => Nat.zero_le _
  | g :: L => by
    rw [List.flatMap_cons, List.length_append, List.length_cons, Nat.add_mul]
    have := more_len n g
    have := flat_len n L
    omega
end CL
namespace LW
open PySem L2 Evl CE CB CW
section
variable {K : PySem.W.Frag} {σ : L2.St} {H : Hp}
theorem q_parN {D : Ends} {tz : TS} {i j : Nat} {tl t2 : TE} {v2 : V} {Ps : List VP} (h : EvN tl σ H Ps) (h2 : ∀ H1, Ex H H1 → Ev t2 σ H1 v2) (hs : ∀ P ∈ Ps, Stx P)
    (k : ∀ p xs H1, H p = none → Ex H H1 → H1 p = some (.lst xs) → AllP Ps xs H1 → tz D ((σ.set i (some (.ref p))).set j (some v2)) H1) : tSeq (tPar i j (tCons tl (tCons t2 tNil))) tz D σ H :=
  h H (Ex.refl H) _ fun p xs H1 hp e1 hl hx => h2 H1 e1 H1 (Ex.refl H1) _ fun H2 e2 => ⟨_, _, rfl, k p xs H2 hp (e1.trans e2) (e2 _ _ hl) (hx.ex e2 hs)⟩
theorem s_extP {D : Ends} {to tl : TE} {l : Addr} {xs : List V} {Qs : List VP} (ho : Ev to σ H (.ref l)) (hl : H l = some (.lst xs)) (hb : EvP tl σ H (IsL Qs)) (hn : xs.length + Qs.length ≤ 100000) (k : ∀ zs H1, Ex H H1 → AllP Qs zs H1 → D.nx σ (upd H1 l (.lst (xs ++ zs)))) :
    tDrop (tBM K "list" rExtend to (tCons tl tNil)) D σ H := ho H (Ex.refl H) _ fun H1 e1 => ⟨Or.inl ⟨rfl, xs, sq_of (e1 l _ hl)⟩, hb H1 e1 _ fun v H2 e2 ⟨b, zs, hv, hz, hzs⟩ => by
  subst hv
  exact ⟨l, b, xs, zs, rfl, rfl, e2 l _ (e1 l _ hl), hz, sz_of (by have := hzs.len; omega), k zs H2 (e1.trans e2) hzs⟩⟩
end
section
variable {P : Program} {w : World} {K : PySem.W.Frag} {mg : Str → Option Value} {base : Heap} {C : Addr}
abbrev gN : List Str := ["_law_size", "_law_found", "_law_start", "_law_k", "_law_end", "_law_at", "_law_one_here", "_law_p"]
def spLGroups : Sp := PrF (fun n : Nat => [IsV (nV n)]) (fun n => n ≤ 7) (fun n => IsGs (CL.groupsM n))
theorem scLGroups : FnScope gN ["_law_size"] (defScope sLGroups) := ⟨rfl, rfl, rfl, by decide +kernel, rfl, by decide +kernel, by decide +kernel⟩
theorem ok_lgroups {f : Addr} {fd : FuncData} (F : Fun K "_law_groups" "_law_groups" sLGroups f fd) (B : Bf mg) : FnOk P w K mg base CX0 1 f fd ["_law_size"] spLGroups := by
  refine F.ok (k := 0) scLGroups (prF_len fun _ => rfl) (fun cdv A outer s H vs Q E hr h => ?_)
  obtain ⟨n, hn, hi, k⟩ := h
  obtain ⟨v1, rfl, h1⟩ := allP1 hi
  have h1 : v1 = nV n := h1
  subst h1
  have hn : n ≤ 7 := hn
  have hu := hr.units
  refine ⟨_, pss_cons (ps_par (i := 1) (j := 2) rfl scLGroups.nd rfl rfl (by decide) rfl rfl (pa_cons (pe_lst (pa_cons (pe_tup pa_nil) pa_nil)) (pa_cons pe_int pa_nil)) (by rfl))
    (pss_cons (ps_for PassesOwn.never rfl (pi_range1 (by rfl) B.range (pa_cons (pv 0) pa_nil)) (pg_name (i := 3) scLGroups.nd rfl (Or.inl rfl))
      (pss_cons (ps_set (i := 4) scLGroups.nd rfl (Or.inl rfl) (pe_b (k_len K) B.len PySem.boot_len (pa_cons (pv 1) pa_nil)))
      (pss_cons (ps_for PassesOwn.never rfl (pi_range2 (by rfl) B.range (pa_cons (pv 2) (pa_cons (pv 4) pa_nil))) (pg_name (i := 5) scLGroups.nd rfl (Or.inl rfl))
        (pss_cons (ps_set (i := 6) scLGroups.nd rfl (Or.inr rfl) (pe_ix (k_ixL K) (pv 1) (pv 5) (fun _ _ => rfl)))
        (pss_one (ps_expr (pe_bm PySem.F.plainAttrs_list PySem.F.slot_list_extend PySem.F.type_list_extend mt_extend (pv 1) (pa_cons
          (pe_lc (own := [("_law_p", 7)]) (g := gName 7) (tt := tOr (tTest (tOp (rEqD K) (tVar 6) (tTup tNil))) (tTest (tOp (rI0 fun i j => .bl (decide (j < i))) (tVar 7) (tOp (rIxT K) (tVar 6) (tUn (rU fun i => .int (-i)) (tC (.int 1))))))) rfl scLGroups.nd (pi_range1 (by rfl) B.range (pa_cons (pv 0) pa_nil)) (blkOk_by (by kernel_rfl)) (fun _ _ _ _ _ => pg_name (i := 7) scLGroups.nd rfl (Or.inl rfl))
            (fun _ _ _ _ _ => pts_one (PW.pt (pw_or (pt_cmpR (k_eqD K hu) (pv 6) (pe_tup pa_nil) (nomark _)) (pw_or1 (pt_cmpR op_gt (pv 7) (pe_ix (k_ixT K) (pv 6) (pe_un un_neg pe_int) (fun _ _ => rfl)) (nomark _))))))
            (fun _ _ _ _ _ => pe_op (k_cat K) (pv 6) (pe_tup (pa_cons (pv 7) pa_nil)))) pa_nil))))))
      (pss_one (ps_set (i := 2) scLGroups.nd rfl (Or.inl rfl) (pv 4))))))
    (pss_one (ps_ret (pv 1)))), ?_⟩
  refine q_parN (v2 := nV 0) (en_lst (Ps := [[]].map IsG) (eap_cons isG_nil (stt_G _).x eap_nil) (fun P hP => (all_G P hP).x) (by decide)) (fun _ _ => ev_c) (fun P hP => (all_G P hP).x) fun pf xf H1 hpf e1 hf hxf => ?_
  refine q_forR1 (n := (n : Int)) (ea_cons (ev_var rfl) ea_nil) ⟨by omega, by omega⟩
    (fun i σ' H' => ∃ pre xs x3 x4 x5 x6, σ' = [some (nV n), some (.ref pf), some (nV pre.length), x3, x4, x5, x6, none] ∧ Ex H H' ∧ CL.upto n i = pre ++ CL.level n i ∧ H' pf = some (.lst xs) ∧ AllP ((CL.upto n i).map IsG) xs H')
    (fun H2 e2 => ⟨[], xf, none, none, none, none, rfl, e1.trans e2, rfl, e2 _ _ hf, hxf.tx (tx_of e2) all_G⟩) ?_ ?_
  · rintro i σ' H' hi ⟨pre, xs, x3, x4, x5, x6, rfl, eH, hpre, hxs, hall⟩
    have hi : i < n := by omega
    have ul := CL.upto_len n (by omega) i (by omega)
    have lv := CL.level_len (n := n) (k := i) (by omega) (by omega)
    have hfl := CL.flat_len n (CL.level n i)
    have hfl2 : (CL.level n i).length * n ≤ 128 * 7 := Nat.mul_le_mul lv hn
    have upl : (CL.upto n i).length = pre.length + (CL.level n i).length := by rw [hpre, List.length_append]
    have hlen := hall.len
    rw [List.length_map] at hlen
    have hgs : IsGs (CL.upto n i) (.ref pf) H' := ⟨pf, xs, rfl, hxs, hall⟩
    refine pq_asg (ep_ev (ev_lenL (ep_var rfl hgs (stx_Gs _)))) fun v H2 e2 hv => ?_
    have hv : v = nV (CL.upto n i).length := by rw [show v = nV ((CL.upto n i).map IsG).length from hv, List.length_map]
    subst hv
    refine q_forR2 (lo := (pre.length : Int)) (n := ((CL.upto n i).length : Int)) (ea_cons (ev_var rfl) (ea_cons (ev_var rfl) ea_nil)) ⟨by omega, by omega, by omega, by omega⟩
      (fun j σ2 H3 => ∃ ys x5 x6, σ2 = [some (nV n), some (.ref pf), some (nV pre.length), some (.int (i : Int)), some (nV (CL.upto n i).length), x5, x6, none] ∧ Ex H H3 ∧ H3 pf = some (.lst ys) ∧ AllP ((CL.upto n i ++ ((CL.level n i).take j).flatMap (CL.more n)).map IsG) ys H3)
      (fun H3 e3 => ⟨xs, _, _, rfl, (eH.trans e2).trans e3, e3 _ _ (e2 _ _ hxs), by simpa using hall.tx (tx_of (e2.trans e3)) all_G⟩) ?_ ?_
    · rintro j σ2 H3 hj ⟨ys, x5, x6, rfl, eH3, hys, hally⟩
      have hj : j < (CL.level n i).length := by omega
      have hyl := hally.len
      rw [List.length_map, List.length_append] at hyl
      have hsub : (((CL.level n i).take j).flatMap (CL.more n)).length ≤ 128 * 7 := by
        have a1 := CL.flat_len n ((CL.level n i).take j)
        have a2 : ((CL.level n i).take j).length ≤ 128 := by rw [List.length_take]; omega
        have a3 := Nat.mul_le_mul a2 hn
        omega
      have hix : ((CL.upto n i ++ ((CL.level n i).take j).flatMap (CL.more n)).map IsG)[pre.length + j]? = some (IsG ((CL.level n i)[j])) := by
        rw [List.getElem?_map, List.getElem?_append_left (by omega), hpre, List.getElem?_append_right (by omega)]
        rw [Nat.add_sub_cancel_left, List.getElem?_eq_getElem hj]
        rfl
      refine pq_asg (R := IsG ((CL.level n i)[j])) (ep_ixL (i := pre.length + j) (Ps := (CL.upto n i ++ ((CL.level n i).take j).flatMap (CL.more n)).map IsG) (ep_var rfl ⟨pf, ys, rfl, hys, hally⟩ (stx_Gs _)) (fun P hP => (all_G P hP).x) (ev_is (ev_var rfl) (by simp)) hix) fun v H4 e4 hv => ?_
      generalize hg : (CL.level n i)[j] = g at hv
      have gl : g.length ≤ 7 := by
        have : g ∈ CL.level n i := by rw [← hg]; exact List.getElem_mem hj
        have := (CL.mem_level.mp this).2
        omega
      refine s_extP (ev_var rfl) (e4 _ _ hys) (lcRg n (fun p => IsG (g ++ [p])) (CL.lastLt g) (ea_cons (ev_var rfl) ea_nil) (fun _ => stt_G _) (by omega) (fun _ => rfl) (fun a H5 ha e5 => ?_) (fun a H5 ha e5 _ => ?_)) ?_ fun zs H5 e5 hzs => ?_
      · have hv5 := (stt_G g).x _ _ _ e5 hv
        rcases List.eq_nil_or_concat g with rfl | ⟨a', z, rfl⟩
        · exact et_is (et_or (b := false) (et_test (ev_eqG (ep_var rfl hv5 (stt_G _).x) isG_nil)) (fun z => by cases z)) rfl
        · rw [List.concat_eq_append] at hv5 ⊢
          refine et_is (et_or (et_test (ev_eqG (ep_var rfl hv5 (stt_G _).x) isG_nil)) fun _ => et_test (ev_op (ev_var rfl) (ev_ixLast (ep_var rfl hv5 (stt_G _).x) (ev_un ev_c ru_neg)) rv_I0)) ?_
          have e1 : decide (a' ++ [z] = []) = false := decide_eq_false (by simp)
          rw [e1]
          unfold CL.lastLt
          rw [List.getLast?_append]
          show (false || decide ((z : Int) < (a : Int))) = decide (z < a)
          rw [Bool.false_or, Bool.eq_iff_iff, decide_eq_true_iff, decide_eq_true_iff]
          omega
      · exact ep_catG (ep_var rfl ((stt_G g).x _ _ _ e5 hv) (stt_G g).x) (ep_one (ev_var rfl)) (by show g.length + 1 ≤ 100000; omega)
      · have := CL.more_len n g
        unfold CL.more at this
        rw [List.length_map] at this ⊢
        omega
      · have hp5 := e5 _ _ (e4 _ _ hys)
        have tk : ((CL.level n i).take (j + 1)).flatMap (CL.more n) = ((CL.level n i).take j).flatMap (CL.more n) ++ CL.more n g := by
          rw [List.take_add_one, List.getElem?_eq_getElem hj, hg, List.flatMap_append]
          simp
        have hzs : AllP ((CL.more n g).map IsG) zs H5 := by
          unfold CL.more
          rw [List.map_map]
          exact hzs
        refine ⟨ys ++ zs, _, _, rfl, Ex.mut ((eH3.trans e4).trans e5) hpf, upd_same, ?_⟩
        rw [tk, ← List.append_assoc, List.map_append]
        exact AllP.app (hally.tx ((tx_of (e4.trans e5)).trans (tx_lst hp5)) all_G) (hzs.tx (tx_lst hp5) all_G)
    · rintro σ2 H3 ⟨ys, x5, x6, rfl, eH3, hys, hally⟩
      have e0 : ((((CL.upto n i).length : Nat) : Int) - (pre.length : Int)).toNat = (CL.level n i).length := by omega
      rw [e0, List.take_length] at hally
      refine p_asg (ep_ev (ev_var rfl)) fun v H4 e4 hv => ?_
      have hv : v = nV (CL.upto n i).length := hv
      subst hv
      refine ⟨CL.upto n i, ys, _, _, _, _, rfl, eH3.trans e4, CL.upto_succ n i, e4 _ _ hys, ?_⟩
      rw [CL.upto_succ]
      exact hally.tx (tx_of e4) all_G
  · rintro σ' H' ⟨pre, xs, x3, x4, x5, x6, rfl, eH, hpre, hxs, hall⟩
    rw [Int.toNat_natCast] at hall
    exact p_ret (ep_var rfl (show IsGs (CL.groupsM n) (.ref pf) H' from ⟨pf, xs, rfl, hxs, hall⟩) (stx_Gs _)) fun v H3 e3 hv => k v H3 (eH.trans e3) hv
theorem use_lgroups {σ : L2.St} {H : Hp} {E : XK} {t1 : TE} {n : Nat} (h1 : Ev t1 σ H (nV n)) (hn : n ≤ 7) : EvP (tCall spLGroups [] E (tCons t1 tNil)) σ H (IsGs (CL.groupsM n)) := by
  unfold spLGroups
  exact ep_fn (out := fun n => IsGs (CL.groupsM n)) n (eap_cons (ep_ev h1) (stt_V _).x eap_nil) hn (stx1 (stt_V _).x)
end
end LW

/-! LW6: the law's own table of the placeable groups. -/
namespace LW
open PySem L2 Evl CE CB CW
section
variable {K : PySem.W.Frag} {σ : L2.St} {H : Hp}
theorem q_unpD {D : Ends} {tz : TS} {i j : Nat} {t1 : TE} {P1 : VP} (f : List Nat → V) (h : EvP t1 σ H P1) (hs : Stx P1) (k : ∀ v p H1, Ex H H1 → P1 v H1 → H p = none → H1 p = some (.dT (dkv [] f)) → tz D ((σ.set i (some v)).set j (some (.ref p))) H1) :
    tSeq (tAsg (tTup (tCons t1 (tCons tDNewT tNil))) (gTup K 2 (gCons (gName i) (gCons (gName j) gNil)))) tz D σ H := h H (Ex.refl H) _ fun v H1 e1 hv p hp => by
  have e2 : Ex H1 (upd H1 p (.dT [])) := Ex.new hp
  refine ⟨by show 2 ≤ sizeLine; decide, fun l hl => ⟨l, [v, .ref p], rfl, st_of upd_same, rfl, v, [.ref p], rfl, .ref p, [], rfl, rfl, ?_⟩⟩
  have e3 : Ex (upd H1 p (.dT [])) (upd (upd H1 p (.dT [])) l (.tup [v, .ref p])) := Ex.new hl
  exact k v p _ ((e1.trans e2).trans e3) (hs _ _ _ (e2.trans e3) hv) (fresh_back e1 hp) (e3 _ _ upd_same)
end
section
variable {P : Program} {w : World} {K : PySem.W.Frag} {mg : Str → Option Value} {base : Heap} {C : Addr}
abbrev cN : List Str := ["_law_size", "_law_jobs_here", "_law_lots", "_law_can_here", "_law_group", "_law_job_here", "_law_more", "_law_fewer", "_law_k", "_law_one_here"]
def bF (f : List Nat → Bool) : List Nat → V := fun g => .bl (f g)
def spCan : Sp := PrF (fun a : Nat × List (List Nat) => [IsV (nV a.1), IsGs a.2]) (fun a => a.1 ≤ 7 ∧ a.2.length ≤ 7) (fun a => IsD (CL.groupsM a.1) (bF (CL.canF a.2)))
theorem scCan : FnScope cN ["_law_size", "_law_jobs_here"] (defScope sCan) := ⟨rfl, rfl, rfl, by decide +kernel, rfl, by decide +kernel, by decide +kernel⟩
theorem ok_can {f : Addr} {fd : FuncData} (F : Fun K "_law_can" "_law_can" sCan f fd) (B : Bf mg) (CG : Cal P w K mg base 1 "_law_groups" ["_law_size"] spLGroups) : FnOk P w K mg base CX0 2 f fd ["_law_size", "_law_jobs_here"] spCan := by
  refine F.ok (k := 1) scCan (prF_len fun _ => rfl) (fun cdv A outer s H vs Q E hr h => ?_)
  obtain ⟨⟨n, js⟩, ⟨hn, hj⟩, hi, k⟩ := h
  obtain ⟨v1, v2, rfl, h1, h2⟩ := allP2 hi
  have h1 : v1 = nV n := h1
  subst h1
  have hn : n ≤ 7 := hn
  have hj : js.length ≤ 7 := hj
  have h2 : IsGs js v2 H := h2
  have hu := hu_of hr
  have hu2 := hr.units
  refine ⟨_, pss_cons (ps_asg (pe_tup (pa_cons (pe_fn CG hr (pa_cons (pv 0) pa_nil)) (pa_cons pe_dnewT pa_nil))) (k_gtup K (pgs_cons (pg_name (i := 2) scCan.nd rfl (Or.inl rfl)) (pgs_cons (pg_name (i := 3) scCan.nd rfl (Or.inr rfl)) pgs_nil))))
    (pss_cons (ps_for PassesOwn.never rfl (k_pil K (pv 2)) (pg_name (i := 4) scCan.nd rfl (Or.inr rfl))
      (pss_one (ps_dput hu (pv 3) (pv 4) (pe_cmpR (k_eqD K hu2) (pv 4) (pe_tup pa_nil) (nomark _)) rfl)))
    (pss_cons (ps_for PassesOwn.never rfl (k_pil K (pv 1)) (pg_name (i := 5) scCan.nd rfl (Or.inr rfl))
      (pss_cons (ps_set (i := 6) scCan.nd rfl (Or.inl rfl) pe_dnewT)
      (pss_cons (ps_for PassesOwn.never rfl (k_pil K (pv 2)) (pg_name (i := 4) scCan.nd rfl (Or.inr rfl))
        (pss_cons (ps_setLc (i := 7) (own := [("_law_k", 8)]) (g := gName 8) (tt := tTest (tOp (rIn K false) (tOp (rIxT K) (tVar 4) (tVar 8)) (tVar 5))) rfl scCan.nd rfl rfl (by first | exact sw_true rfl rfl rfl (by decide +kernel) | rfl) (pi_range1 (by rfl) B.range (pa_cons (pe_b (k_len K) B.len PySem.boot_len (pa_cons (pv 4) pa_nil)) pa_nil)) (blkOk_by (by kernel_rfl)) (fun _ _ _ _ _ => pg_name (i := 8) scCan.nd rfl (Or.inl rfl))
            (fun _ _ _ _ _ => pts_one (pt_cmpR (k_in K) (pe_ix (k_ixT K) (pv 4) (pv 8) (fun _ _ => rfl)) (pv 5) (by rfl)))
            (fun _ _ _ _ _ => pe_op (k_cat K) (pe_slice (k_slT K) (pv 4) po_none (po_some (pv 8))) (pe_slice (k_slT K) (pv 4) (po_some (pe_op op_add (pv 8) pe_int)) po_none)))
        (pss_one (ps_dput hu (pv 6) (pv 4) (pe_or (pe_dget hu (pv 3) (pv 4) (fun _ _ => rfl)) (pe_one (pe_b (k_any K) B.any PyProof.Rows.boot_any (pa_cons
            (pe_lc (own := [("_law_one_here", 9)]) (g := gName 9) (tt := tYes) rfl scCan.nd (k_pil K (pv 7)) (blkOk_by (by kernel_rfl)) (fun _ _ _ _ _ => pg_name (i := 9) scCan.nd rfl (Or.inl rfl)) (fun _ _ _ _ _ => pts_nil)
              (fun _ _ _ _ _ => pe_dget hu (pv 3) (pv 9) (fun _ _ => rfl))) pa_nil)))) rfl))))
      (pss_one (ps_set (i := 3) scCan.nd rfl (Or.inr rfl) (pv 6))))))
    (pss_one (ps_ret (pv 3))))), ?_⟩
  have take_succ : ∀ {i : Nat} {g : List Nat}, (CL.groupsM n)[i]? = some g → (CL.groupsM n).take (i + 1) = (CL.groupsM n).take i ++ [g] ∧ ((CL.groupsM n).take i).contains g = false := fun {i g} hgi => by
    have hlt : i < (CL.groupsM n).length := (List.getElem?_eq_some_iff.mp hgi).1
    have tk : (CL.groupsM n).take (i + 1) = (CL.groupsM n).take i ++ [g] := by rw [List.take_add_one, hgi]; rfl
    refine ⟨tk, ?_⟩
    rw [List.contains_eq_mem, decide_eq_false_iff_not]
    intro z
    have hnd : ((CL.groupsM n).take (i + 1)).Nodup := List.Pairwise.sublist (List.take_sublist _ _) (CL.groups_nodup n)
    rw [tk] at hnd
    exact (List.nodup_append.mp hnd).2.2 g z g (by simp) rfl
  have glen := CL.groups_len hn
  have tlen : ∀ i, ((CL.groupsM n).take i).length ≤ 128 := fun i => by rw [List.length_take]; omega
  refine q_unpD (bF CL.can0) (use_lgroups (ev_var rfl) hn) (stx_Gs _) fun vl pd H1 e1 hvl hpd hd0 => ?_
  refine q_forQ (CL.groupsM n) IsG (ep_var rfl hvl (stx_Gs _)) (fun a => stt_G a)
    (fun H2 i σ' H' => ∃ x4, σ' = [some (nV n), some v2, some vl, some (.ref pd), x4, none, none, none, none, none] ∧ Ex H H' ∧ LTx H2 H' ∧ H' pd = some (.dT (dkv ((CL.groupsM n).take i) (bF CL.can0))))
    (fun H2 i σ' H' e2 ⟨_, _, _, l, _⟩ => l) (fun H2 e2 => ⟨none, rfl, e1.trans e2, LTx.of (Ex.refl _), e2 _ _ hd0⟩) ?_ ?_
  · rintro H2 i g v σ' H' e2 hgi hg ⟨x4, rfl, eH, lt, hd⟩
    obtain ⟨tk, nc⟩ := take_succ hgi
    refine s_dput (L := (CL.groupsM n).take i) (f := bF CL.can0) (g := g) (ev_eqG (ep_var rfl hg (stt_G g).x) isG_nil) (ev_var rfl) hd (ep_var rfl hg (stt_G g).x) nc (by have := tlen i; omega) fun H5 e5 => ?_
    have hd5 := e5 _ _ hd
    refine ⟨_, rfl, Ex.mut (eH.trans e5) hpd, (lt.trans (LTx.of e5)).trans (LTx.dict hd5), ?_⟩
    rw [tk]
    exact upd_same
  · rintro H2 σ' H' e2 ⟨x4, rfl, eH, lt, hd⟩
    rw [List.take_length] at hd
    have hvl' : IsGs (CL.groupsM n) vl H' := by
      obtain ⟨a, xs, hv, ha, hx⟩ := stx_Gs _ _ _ _ e2 hvl
      exact ⟨a, xs, hv, lt.1 _ _ ha, hx.tx lt.2 all_G⟩
    have h2' : IsGs js v2 H' := stx_Gs _ _ _ _ eH h2
    refine q_forQ js IsG (ep_var rfl h2' (stx_Gs _)) (fun a => stt_G a)
      (fun H3 i σ' H4 => ∃ x4 x5 x6 x7 pe, σ' = [some (nV n), some v2, some vl, some (.ref pe), x4, x5, x6, x7, none, none] ∧ Ex H H4 ∧ LTx H3 H4 ∧ IsGs (CL.groupsM n) vl H4 ∧ H4 pe = some (.dT (dkv (CL.groupsM n) (bF (CL.canF (js.take i))))))
      (fun H3 i σ' H4 e3 ⟨_, _, _, _, _, _, _, l, _⟩ => l) (fun H3 e3 => ⟨_, none, none, none, pd, rfl, eH.trans e3, LTx.of (Ex.refl _), stx_Gs _ _ _ _ e3 hvl', e3 _ _ hd⟩) ?_ ?_
    · rintro H3 i job vj σ' H4 e3 hji hvj ⟨x4, x5, x6, x7, pe, rfl, eH4, lt4, hvl4, hpe⟩
      have tkj : CL.canF (js.take (i + 1)) = CL.canStep (CL.canF (js.take i)) job := by
        unfold CL.canF
        rw [List.take_add_one, hji, List.foldl_append]
        rfl
      refine s_dnew (bF (CL.canStep (CL.canF (js.take i)) job)) fun pm hpm => ?_
      have e5 : Ex H4 (upd H4 pm (.dT (dkv [] (bF (CL.canStep (CL.canF (js.take i)) job))))) := Ex.new hpm
      have hpm5 : upd H4 pm (.dT (dkv [] (bF (CL.canStep (CL.canF (js.take i)) job)))) pm = some (.dT (dkv [] (bF (CL.canStep (CL.canF (js.take i)) job)))) := upd_same
      generalize upd H4 pm (.dT (dkv [] (bF (CL.canStep (CL.canF (js.take i)) job)))) = H5 at e5 hpm5 ⊢
      have npe : pe ≠ pm := fun z => by rw [z, hpm] at hpe; cases hpe
      have hpmH : ∀ a o, H a = some o → a ≠ pm := fun a o h z => by
        have := eH4 _ _ h
        rw [z, hpm] at this; cases this
      have hpmH3 : ∀ {a o}, H4 a = some o → a ≠ pm := fun {a o} h z => by rw [z, hpm] at h; cases h
      refine q_forQ (CL.groupsM n) IsG (ep_var rfl (stx_Gs _ _ _ _ e5 hvl4) (stx_Gs _)) (fun a => stt_G a)
        (fun H6 j σ' H7 => ∃ x4 x7, σ' = [some (nV n), some v2, some vl, some (.ref pe), x4, some vj, some (.ref pm), x7, none, none] ∧ Xp pm H6 H7 ∧ H7 pm = some (.dT (dkv ((CL.groupsM n).take j) (bF (CL.canStep (CL.canF (js.take i)) job)))))
        (fun H6 j σ' H7 e6 ⟨_, _, _, x, _⟩ => ⟨fun a xs h => x a _ (fun z => by rw [z, e6 _ _ hpm5] at h; cases h) h, fun a xs h => x a _ (fun z => by rw [z, e6 _ _ hpm5] at h; cases h) h⟩)
        (fun H6 e6 => ⟨x4, x7, rfl, Xp.refl _ _, e6 _ _ hpm5⟩) ?_ ?_
      · rintro H6 j g v σ' H7 e6 hgj hg ⟨x4, x7, rfl, x, hm⟩
        obtain ⟨tk, nc⟩ := take_succ hgj
        have gg : CL.Grp n g := CL.mem_groups.mp (List.mem_of_getElem? hgj)
        have gl := gg.len
        have hpe7 : H7 pe = some (.dT (dkv (CL.groupsM n) (bF (CL.canF (js.take i))))) := x _ _ npe (e6 _ _ (e5 _ _ hpe))
        have hvj7 : IsG job vj H7 := by
          obtain ⟨a, hv, ha⟩ := hvj
          exact ⟨a, hv, x _ _ (hpmH3 ha) (e6 _ _ (e5 _ _ ha))⟩
        refine pq_asg (R := IsGs (CL.fewerM job g)) ((lcRg g.length (fun at_ => IsG (CL.cutAt g at_)) (fun at_ => job.contains (g.getD at_ 0)) (ea_cons (ev_lenG (ep_var rfl hg (stt_G g).x)) ea_nil) (fun _ => stt_G _) (by omega) (fun _ => rfl) (fun a H8 ha e8 => ?_) (fun a H8 ha e8 _ => ?_)).imp fun v H8 _ r => ?_) fun vf H8 e8 hvf => ?_
        · exact et_test (ev_inG (ev_ixG (ep_var rfl ((stt_G g).x _ _ _ e8 hg) (stt_G g).x) (ev_var rfl) ha) (ep_var rfl ((stt_G job).x _ _ _ e8 hvj7) (stt_G job).x))
        · have hg8 := (stt_G g).x _ _ _ e8 hg
          have a1 := ep_slG (K := K) (te := tVar 4) (σ := (wipe [some (nV n), some v2, some vl, some (V.ref pe), some v, some vj, some (V.ref pm), x7, none, none] [8]).set 8 (some (nV a))) (H := H8) (tl := tNoPart) (th := tPart (tVar 8)) (lo := none) (hi := some (a : Int)) (ep_var rfl hg8 (stt_G g).x) eo_none (eo_some (ev_var rfl))
          have a2 := ep_slG (K := K) (te := tVar 4) (σ := (wipe [some (nV n), some v2, some vl, some (V.ref pe), some v, some vj, some (V.ref pm), x7, none, none] [8]).set 8 (some (nV a))) (H := H8) (tl := tPart (tOp (rI0 fun i j => .int (i + j)) (tVar 8) (tC (.int 1)))) (th := tNoPart) (lo := some ((a + 1 : Nat) : Int)) (hi := none) (ep_var rfl hg8 (stt_G g).x) (eo_some (ev_is (ev_op (ev_var rfl) ev_c (rv_I0 (i := (a : Int)) (j := 1))) (by simp))) eo_none
          rw [cutN_take] at a1
          rw [cutN_drop] at a2
          exact ep_catG a1 a2 (by rw [List.length_take, List.length_drop]; omega)
        · unfold CL.fewerM IsGs
          rw [List.map_map]
          exact r
        · have hpe8 := e8 _ _ hpe7
          have hg8 := (stt_G g).x _ _ _ e8 hg
          have fl : (CL.fewerM job g).length ≤ 7 := by
            unfold CL.fewerM
            rw [List.length_map]
            refine Nat.le_trans (List.length_filter_le _ _) ?_
            rw [List.length_range]; omega
          have gm : (CL.groupsM n).contains g = true := by rw [List.contains_eq_mem, decide_eq_true_iff]; exact List.mem_of_getElem? hgj
          refine s_dput (L := (CL.groupsM n).take j) (f := bF (CL.canStep (CL.canF (js.take i)) job)) (g := g) (ev_is (ev_orV (ev_dGet (L := CL.groupsM n) (f := bF (CL.canF (js.take i))) (ep_var rfl ⟨pe, rfl, hpe8⟩ (stx_D _ _)) (ep_var rfl hg8 (stt_G g).x) gm) fun _ =>
              ev_any (bs := (CL.fewerM job g).map (CL.canF (js.take i))) ((lcL (CL.fewerM job g) IsG (fun o => IsV (.bl (CL.canF (js.take i) o))) (fun _ => true) (ep_var rfl hvf (stx_Gs _)) (fun a => (stt_G a).x) (fun _ => stt_V _) (by omega) (fun _ => rfl) (fun a v H9 _ _ _ => et_yes) (fun o v H9 ho e9 hv _ => ep_ev (ev_dGet (L := CL.groupsM n) (f := bF (CL.canF (js.take i))) (ep_var rfl ⟨pe, rfl, e9 _ _ hpe8⟩ (stx_D _ _)) (ep_var rfl hv (stt_G o).x) ?_))).imp fun v H9 _ r => ?_)) ?_) (ev_var rfl) (e8 _ _ hm) (ep_var rfl hg8 (stt_G g).x) nc (by have := tlen j; omega) fun H9 e9 => ?_
          · rw [List.contains_eq_mem, decide_eq_true_iff]
            obtain ⟨kk, _, rfl⟩ := List.mem_map.mp ho
            exact CL.mem_groups.mpr (CL.grp_cut gg kk)
          · rw [filter_yes] at r
            exact isB_map r
          · show V.bl (CL.canF (js.take i) g || _) = V.bl (CL.canStep (CL.canF (js.take i)) job g)
            unfold CL.canStep
            rw [List.any_map]
            rfl
          · refine ⟨_, _, rfl, ((x.ex e8).ex e9).put, ?_⟩
            rw [tk]
            exact upd_same
      · rintro H6 σ' H7 e6 ⟨x4, x7, rfl, x, hm⟩
        rw [List.take_length] at hm
        refine p_asg (ep_ev (ev_var rfl)) fun v H8 e8 hv => ?_
        have hv : v = .ref pm := hv
        subst hv
        have x4H : ∀ a o, a ≠ pm → H4 a = some o → H8 a = some o := fun a o na h => e8 _ _ (x a o na (e6 _ _ (e5 _ _ h)))
        refine ⟨_, _, _, _, pm, rfl, fun a o h => x4H a o (hpmH a o h) (eH4 _ _ h), lt4.trans ⟨fun a xs h => x4H a _ (hpmH3 h) h, fun a xs h => x4H a _ (hpmH3 h) h⟩, ?_, ?_⟩
        · obtain ⟨a, xs, hv, ha, hx⟩ := hvl4
          exact ⟨a, xs, hv, x4H _ _ (hpmH3 ha) ha, hx.tx (fun a xs h => x4H a _ (hpmH3 h) h) all_G⟩
        · rw [tkj]
          exact e8 _ _ hm
    · rintro H3 σ' H4 e3 ⟨x4, x5, x6, x7, pe, rfl, eH4, lt4, hvl4, hpe⟩
      rw [List.take_length] at hpe
      exact p_ret (ep_var rfl (show IsD (CL.groupsM n) (bF (CL.canF js)) (.ref pe) H4 from ⟨pe, rfl, hpe⟩) (stx_D _ _)) fun v H5 e5 hv => k v H5 (eH4.trans e5) hv
theorem use_can {σ : L2.St} {H : Hp} {E : XK} {t1 t2 : TE} {n : Nat} {js : List (List Nat)} (h1 : Ev t1 σ H (nV n)) (h2 : EvP t2 σ H (IsGs js)) (hn : n ≤ 7) (hj : js.length ≤ 7) : EvP (tCall spCan [] E (tCons t1 (tCons t2 tNil))) σ H (IsD (CL.groupsM n) (bF (CL.canF js))) := by
  unfold spCan
  exact ep_fn (out := fun a : Nat × List (List Nat) => IsD (CL.groupsM a.1) (bF (CL.canF a.2))) (n, js) (eap_cons (ep_ev h1) (stt_V _).x (eap_cons h2 (stx_Gs js) eap_nil)) ⟨hn, hj⟩ (stx2 (stt_V _).x (stx_Gs js))
end
end LW

/-! LW7: abs(x) and x != y of instances with own __abs__, __eq__. -/
namespace LW
open PySem PySem.W
section
variable {prog : Program} {w : World} {A : Around} {E : Value → Shared → Prop} {s : Shared} {K : Frag} {x y C D f : Addr} {ox oy : Obj} {od od' : Option Obj}
theorem ne_own {Q : Value → Shared → Prop} (hu : A.units + 2 < cLine) (X : K.In s.heap) (I : InstAt s.heap x ox C od) (J : InstAt s.heap y oy C od') (hm : mroIn K C (.type "object") = some true)
    (hne : findIn K (.ref C) "__ne__" = some (some (.builtin "object.__ne__"))) (heq : findIn K (.ref C) "__eq__" = some (some (.ref f))) (hf : isFn K (.ref f) = true)
    (h : wpAny (model prog w) A.in1 (call (.ref f) [.ref x, .ref y]) (fun v s' => ∃ b, v = .bool b ∧ Q (.bool (!b)) s') E s) : wpAny (model prog w) A (compareOp .NotEq (.ref x) (.ref y)) Q E s := by
  have body : wpAny (model prog w) A (call (.builtin "object.__ne__") [.ref x, .ref y]) (fun v s' => ∃ b, v = .bool b ∧ Q (.bool b) s') E s := by
    refine wpAny_call (codeAny_call_builtin PySem.F.cmp_object.ne.plain PySem.F.cmpEntry_ne (check_slot (i := "object.__ne__") (owner := "object") (n := "__ne__") PySem.F.cmpKind_ne PySem.F.cmpSplit_ne (I.type.andThen (looks_mroIn X hm)) (PySem.F.cmpArgs_ne _ _) ?_))
    unfold Builtin.«object.__ne__»
    refine wpAny_bind (m := slotArgs "__ne__" 1 _) (wpAny_pure ?_)
    dsimp only
    refine wpAny_bind (m := cRoomFor _ _) (wpAny_cRoomFor (show A.units + 1 < cLine by omega) ?_)
    refine wpAny_bind (m := callSpecialIfBound? (.ref x) (Str.ofString "__eq__") _) (ifBound_K X I heq hf (wpAny_mono h (fun r s' hq => ?_) fun _ _ y => y))
    obtain ⟨b, rfl, hq⟩ := hq
    dsimp only
    refine wpAny_bind (wpAny_truthy_bool (wpAny_pure ⟨!b, rfl, hq⟩))
  have one : wpAny (model prog w) A (tryCompare (.ref x) (cmpInfo .NotEq).2.1 (.ref y)) (fun r s' => ∃ v, r = some v ∧ Q v s') E s := by
    unfold tryCompare
    refine wpAny_bind ?_
    simp only [callSpecialIfBound?, bindSpecialIfBound?]
    refine wpAny_holding (wpAny_bind (wpAny_bind (wpAny_bind (I.type.here ((looks_findIn X hne).here ?_)))))
    refine wpAny_bind (wpAny_askSetting (wpAny_ite ?_))
    have fin : wpAny (model prog w) A (call (.builtin "object.__ne__") ([.ref x] ++ [.ref y]) >>= fun v => pure (some v)) (fun r s' => wpAny (model prog w) A (match r with | some .notImplemented | none => pure none | some v => pure (some v)) (fun r s' => ∃ v, r = some v ∧ Q v s') E s') E s :=
      wpAny_bind (wpAny_mono body (fun v s' ⟨b, hv, hq⟩ => wpAny_pure (by subst hv; exact wpAny_pure ⟨_, rfl, hq⟩)) fun _ _ h' => h')
    split
    · exact wpAny_bind ((Looks.of_pure (PySem.F.cmp_object.ne.bind _)).here (wpAny_pure (by exact fin)))
    · exact wpAny_tryCatch (wpAny_bind ((Looks.of_pure (PySem.F.cmp_object.ne.bind _)).here (wpAny_pure (by exact fin))))
  unfold compareOp richCompare
  simp only [oneThing_ref]
  refine wpAny_holding (wpAny_bind (wpAny_cRoomFor (show A.units < cLine by omega) ?_))
  refine wpAny_bind (I.type.here (wpAny_bind (J.type.here ?_)))
  rw [if_neg (by simp)]
  refine wpAny_bind (wpAny_pure ?_)
  simp only [Bool.false_eq_true, if_false]
  refine wpAny_bind (wpAny_mono one (fun r s' z => ?_) fun _ _ e => e)
  obtain ⟨v, rfl, hq⟩ := z
  exact wpAny_pure hq
theorem abs_own {Q : Value → Shared → Prop} (X : K.In s.heap) (I : InstAt s.heap x ox C od) (ha : findIn K (.ref C) "__abs__" = some (some (.ref f))) (hf : isFn K (.ref f) = true)
    (h : wpAny (model prog w) A.in1 (call (.ref f) [.ref x]) Q E s) : wpAny (model prog w) A (call (.builtin "abs") [.ref x]) Q E s := by
  refine Calls.call_function_entry PyProof.Rows.kind_abs PyProof.Rows.plain_abs PyProof.Rows.entry_abs (PyProof.Rows.args_abs _) ?_
  unfold Builtin.«abs»
  refine wpAny_bind (m := oneArg "abs" _) (wpAny_pure ?_)
  refine wpAny_bind (m := callSpecial? (.ref x) (Str.ofString "__abs__")) (special_fn X I ha (beq_iff_eq.mp hf) (wpAny_mono h (fun r s' hq => ?_) fun _ _ y => y))
  exact wpAny_pure ⟨_, rfl, hq⟩
end
end LW

/-! LW8: their rules. -/
namespace LW
open PySem L2 Evl CE CB CW
section
variable {X : Cx} {C f : Addr} {fd : FuncData} {n : Nat} {ps : List Str} {sp : Sp}
theorem run_own {A : Around} {pins : List (Addr × Obj)} {σ : L2.St} {H : Hp} {s : Shared} {us : List Value} {ws : List V} {Q : VK} (F : FnOk X.prog X.w X.K X.mg X.base CX0 n f fd ps sp) (hb : Binds X.K fd ps []) (hr : Room n A) (e0 : Env0 X.prog X.w X.K X.mg X.base A X.stack s H) (I : Inv X pins σ H s) (r : Vals ws us) (h : sp ws H Q E0) :
    wpAny (model X.prog X.w) A (call (.ref f) us) (EP X pins σ Q) X.xe s := by
  have hl := F.len _ _ _ _ h
  refine wpAny_call (codeAny_mono (F.run A X.stack s H ⟨us, []⟩ us ws Q E0 hr e0 (by
    have := hb s us I.kIn (by rw [List.append_nil, ← r.length]; exact hl)
    rw [List.append_nil] at this
    exact this) r h) fun r s' hq => ?_)
  cases r with
  | error e => exact False.elim hq
  | ok fl =>
    cases fl with
    | ret u => exact I.after hq
    | next => exact False.elim hq
    | brk => exact False.elim hq
    | cont => exact False.elim hq
def rAbsOwn (C : Addr) (sp : Sp) : List V → Hp → VK → Prop := fun xs H Q => ∃ a dx fs, xs = [.ref a] ∧ H a = some (.ins C dx fs) ∧ sp [.ref a] H Q E0
theorem cr_absOwn (F : FnOk X.prog X.w X.K X.mg X.base CX0 n f fd ps sp) (hb : Binds X.K fd ps []) (hs : PySem.W.findIn X.K (.ref C) "__abs__" = some (some (.ref f))) (hf : PySem.W.isFn X.K (.ref f) = true) (hr : Room (n + 1) X.A) : CallR X (.builtin "abs") (rAbsOwn C sp) := by
  intro pins s σ H xs us Q I r h
  obtain ⟨a, dx, fs, rfl, ha, q⟩ := h
  obtain ⟨u, rfl, ru⟩ := vals1 r
  cases ru
  obtain ⟨mA, J, _⟩ := ins_get I.hok ha
  obtain ⟨od, J, _⟩ := J.look
  exact abs_own I.kIn J hs hf (run_own (ws := [.ref a]) F hb hr.in1 I.env0.in1 I (.cons rfl .nil) q)
def rNeOwn (C : Addr) (sp : Sp) : R2 := fun x y H Q => ∃ a dx fs b dy gs, x = .ref a ∧ y = .ref b ∧ H a = some (.ins C dx fs) ∧ H b = some (.ins C dy gs) ∧ sp [.ref a, .ref b] H (fun v H' => ∃ k, v = .bl k ∧ Q (.bl (!k)) H') E0
theorem op_neOwn (F : FnOk X.prog X.w X.K X.mg X.base CX0 n f fd ps sp) (hb : Binds X.K fd ps []) (hs : PySem.W.findIn X.K (.ref C) "__eq__" = some (some (.ref f))) (hf : PySem.W.isFn X.K (.ref f) = true) (hne : PySem.W.findIn X.K (.ref C) "__ne__" = some (some (.builtin "object.__ne__")))
    (hm : PySem.W.mroIn X.K C (.type "object") = some true) (hr : Room (n + 1) X.A) : OpR X (compareOp .NotEq) (rNeOwn C sp) := by
  intro pins s σ H x y v u Q I rx ry h
  obtain ⟨a, dx, fs, b, dy, gs, rfl, rfl, ha, hb', q⟩ := h
  cases rx
  cases ry
  obtain ⟨mA, J, _⟩ := ins_get I.hok ha
  obtain ⟨od, J, _⟩ := J.look
  obtain ⟨mB, J', _⟩ := ins_get I.hok hb'
  obtain ⟨od', J', _⟩ := J'.look
  refine ne_own (by have := hr.units; omega) I.kIn J J' hm hne hs hf (wpAny_mono (run_own (ws := [.ref a, .ref b]) F hb hr.in1 I.env0.in1 I (.cons rfl (.cons rfl .nil)) q) (fun v s' z => ?_) fun _ _ z => z)
  obtain ⟨z, H', I', rz, k, ez, qz⟩ := z
  subst ez
  cases rz
  exact ⟨k, rfl, .bl (!k), H', I', rfl, qz⟩
/-- abs of an int -/
def rAbsI : List V → Hp → VK → Prop := fun xs H Q => ∃ z : Int, xs = [.int z] ∧ ∀ y : Int, Q (.int y) H
theorem cr_absI : CallR X (.builtin "abs") rAbsI := by
  intro pins s σ H xs us Q I r h
  obtain ⟨z, rfl, q⟩ := h
  obtain ⟨u, rfl, t, rfl⟩ := vals1 r
  exact PyProof.Rows.call_abs_int fun u tk => ⟨.int _, H, I.tok _, ⟨_, rfl⟩, q _⟩
end
end LW

/-! LW9: the law's crews and its turned list. -/
namespace CL
theorem plM_split (n : Nat) (js : List (List Nat)) : plM n js = (plM n js).dropLast ++ [lastG n js] := by
  have h := List.dropLast_concat_getLast (plM_ne n js)
  have e : lastG n js = (plM n js).getLast (plM_ne n js) := by
    unfold lastG
    rw [List.getLast?_eq_some_getLast (plM_ne n js)]
    rfl
  rw [e]
  exact h.symm
theorem plM_len {n : Nat} (js : List (List Nat)) (hn : n ≤ 7) : (plM n js).length ≤ 128 := by
  unfold plM
  exact Nat.le_trans (List.length_filter_le _ _) (groups_len hn)
end CL
namespace LW
open PySem L2 Evl CE CB CW
theorem decN (a b : Nat) : decide (nV a = nV b) = decide (a = b) := by
  rw [Bool.eq_iff_iff, decide_eq_true_iff, decide_eq_true_iff]
  exact ⟨fun z => by have := V.int.inj z; omega, fun z => by rw [z]⟩
section
variable {K : PySem.W.Frag} {σ : L2.St} {H : Hp}
theorem ep_lastPl {n : Nat} {js : List (List Nat)} {te tb : TE} (h : EvP te σ H (IsGs (CL.plM n js))) (hb : Ev tb σ H (.int (-1))) : EvP (tOp (rIxL K) te tb) σ H (IsG (CL.lastG n js)) := by
  have e : (CL.plM n js).map IsG = (CL.plM n js).dropLast.map IsG ++ [IsG (CL.lastG n js)] := by
    have := congrArg (List.map IsG) (CL.plM_split n js)
    rwa [List.map_append] at this
  unfold IsGs at h
  rw [e] at h
  refine ep_ixLlast h (fun Q hQ => ?_) hb
  rw [← e] at hQ
  exact (all_G Q hQ).x
/-- the groups that the table says can be dealt -/
theorem lc_pl {n : Nat} {js : List (List Nat)} {j : Nat} {vs : List Nat} {tl : TE} {tt : TT} (hn : n ≤ 7) (h : EvP tl σ H (IsGs (CL.groupsM n))) (hw : ∀ x, wipe ((wipe σ vs).set j (some x)) vs = wipe σ vs) (hx : ∀ v, ((wipe σ vs).set j (some v))[j]? = some (some v))
    (ht : ∀ g v H1, g ∈ CL.groupsM n → Ex H H1 → IsG g v H1 → EvT tt ((wipe σ vs).set j (some v)) H1 (CL.canF js g)) : EvP (tLc (iList K tl) (gName j) tt (tVar j) vs) σ H (IsGs (CL.plM n js)) :=
  (lcL (CL.groupsM n) IsG IsG (CL.canF js) h (fun a => (stt_G a).x) stt_G (by have := CL.groups_len hn; omega) hw (fun a v H1 ha e hv => ht a v H1 ha e hv) (fun a v H1 _ _ hv _ => ep_var (hx v) hv (stt_G a).x))
end
section
variable {P : Program} {w : World} {K : PySem.W.Frag} {mg : Str → Option Value} {base : Heap} {C : Addr}
abbrev crN : List Str := ["_law_size", "_law_can_here", "_law_some_here", "_law_group"]
def spCrews : Sp := PrF (fun a : Nat × List (List Nat) => [IsV (nV a.1), IsD (CL.groupsM a.1) (bF (CL.canF a.2))]) (fun a => a.1 ≤ 7 ∧ a.2.length ≤ 7) (fun a => IsGs (CL.setsM a.1 a.2))
theorem scCrews : FnScope crN ["_law_size", "_law_can_here"] (defScope sCrews) := ⟨rfl, rfl, rfl, by decide +kernel, rfl, by decide +kernel, by decide +kernel⟩
theorem ok_crews {f : Addr} {fd : FuncData} (F : Fun K "_law_crews" "_law_crews" sCrews f fd) (B : Bf mg) (CG : Cal P w K mg base 1 "_law_groups" ["_law_size"] spLGroups) : FnOk P w K mg base CX0 2 f fd ["_law_size", "_law_can_here"] spCrews := by
  refine F.ok (k := 1) scCrews (prF_len fun _ => rfl) (fun cdv A outer s H vs Q E hr h => ?_)
  obtain ⟨⟨n, js⟩, ⟨hn, hj⟩, hi, k⟩ := h
  obtain ⟨v1, v2, rfl, h1, h2⟩ := allP2 hi
  have h1 : v1 = nV n := h1
  subst h1
  have hn : n ≤ 7 := hn
  have hu := hu_of hr
  obtain ⟨pd, rfl, hd⟩ := h2
  have hd : H pd = some (.dT (dkv (CL.groupsM n) (bF (CL.canF js)))) := hd
  refine ⟨_, pss_cons (ps_set (i := 2) scCrews.nd rfl (Or.inr rfl) (pe_lc (own := [("_law_group", 3)]) (g := gName 3) (tt := tB (tDGet (tVar 1) (tVar 3))) rfl scCrews.nd (k_pil K (pe_fn CG hr (pa_cons (pv 0) pa_nil))) (blkOk_by (by kernel_rfl)) (fun _ _ _ _ _ => pg_name (i := 3) scCrews.nd rfl (Or.inl rfl))
      (fun _ _ _ _ _ => pts_one (pt_val (pe_dget hu (pv 1) (pv 3) (fun _ _ => rfl)))) (fun _ _ _ _ _ => pv 3)))
    (pss_one (ps_ret (pe_lc (own := [("_law_group", 3)]) (g := gName 3) (tt := tTest (tOp rEq (tCB (rLenN K) (tCons (tVar 3) tNil)) (tCB (rLenN K) (tCons (tOp (rIxL K) (tVar 2) (tUn (rU fun i => .int (-i)) (tC (.int 1)))) tNil)))) rfl scCrews.nd (k_pil K (pv 2)) (blkOk_by (by kernel_rfl)) (fun _ _ _ _ _ => pg_name (i := 3) scCrews.nd rfl (Or.inl rfl))
      (fun _ _ _ _ _ => pts_one (pt_cmpR op_eq (pe_b (k_len K) B.len PySem.boot_len (pa_cons (pv 3) pa_nil)) (pe_b (k_len K) B.len PySem.boot_len (pa_cons (pe_ix (k_ixL K) (pv 2) (pe_un un_neg pe_int) (fun _ _ => rfl)) pa_nil)) (nomark _))) (fun _ _ _ _ _ => pv 3)))), ?_⟩
  refine pq_asg (lc_pl (js := js) hn (use_lgroups (ev_var rfl) hn) (fun _ => rfl) (fun _ => rfl) fun g v H1 hg e hv => et_B (ev_dGet (L := CL.groupsM n) (f := bF (CL.canF js)) (ep_var rfl ⟨pd, rfl, e _ _ hd⟩ (stx_D _ _)) (ep_var rfl hv (stt_G g).x) (by rw [List.contains_eq_mem, decide_eq_true_iff]; exact hg))) fun vs H1 e1 hvs => ?_
  refine p_ret (R := IsGs (CL.setsM n js)) (lcL (CL.plM n js) IsG IsG (fun g => decide (g.length = CL.full n js)) (ep_var rfl hvs (stx_Gs _)) (fun a => (stt_G a).x) stt_G (by have := CL.plM_len js hn; omega) (fun _ => rfl) (fun g v H2 _ e2 hv => ?_) (fun g v H2 _ _ hv _ => ep_var rfl hv (stt_G g).x)) fun v H2 e2 hv => k v H2 (e1.trans e2) hv
  have := ev_op (r := rEq) (ev_lenG (K := K) (te := tVar 3) (σ := (wipe [some (nV n), some (V.ref pd), some vs, none] [3]).set 3 (some v)) (ep_var rfl hv (stt_G g).x)) (ev_lenG (K := K) (ep_lastPl (K := K) (te := tVar 2) (tb := tUn (rU fun i => .int (-i)) (tC (.int 1))) (σ := (wipe [some (nV n), some (V.ref pd), some vs, none] [3]).set 3 (some v)) (n := n) (js := js) (ep_var rfl (stx_Gs _ _ _ _ e2 hvs) (stx_Gs _)) (ev_un ev_c ru_neg))) (rv_eq rfl)
  exact et_test (ev_is this (by unfold CL.full; rw [decN]))
theorem use_crews {E : XK} {σ : L2.St} {H : Hp} {t1 t2 : TE} {n : Nat} {js : List (List Nat)} (h1 : Ev t1 σ H (nV n)) (h2 : EvP t2 σ H (IsD (CL.groupsM n) (bF (CL.canF js)))) (hn : n ≤ 7) (hj : js.length ≤ 7) : EvP (tCall spCrews [] E (tCons t1 (tCons t2 tNil))) σ H (IsGs (CL.setsM n js)) := by
  unfold spCrews
  exact ep_fn (out := fun a : Nat × List (List Nat) => IsGs (CL.setsM a.1 a.2)) (n, js) (eap_cons (ep_ev h1) (stt_V _).x (eap_cons h2 (stx_D _ _) eap_nil)) ⟨hn, hj⟩ (stx2 (stt_V _).x (stx_D _ _))
/-! ### turned -/
abbrev ltN : List Str := ["_law_size", "_law_jobs_here", "_law_p", "_law_at"]
def spLTurned : Sp := PrF (fun a : Nat × List (List Nat) => [IsV (nV a.1), IsGs a.2]) (fun a => a.1 ≤ 7 ∧ a.2.length ≤ 7) (fun a => IsGs (CL.turnM a.1 a.2))
theorem scLTurned : FnScope ltN ["_law_size", "_law_jobs_here"] (defScope sLTurned) := ⟨rfl, rfl, rfl, by decide +kernel, rfl, by decide +kernel, by decide +kernel⟩
theorem ok_lturned {f : Addr} {fd : FuncData} (F : Fun K "_law_turned" "_law_turned" sLTurned f fd) (B : Bf mg) : FnOk P w K mg base CX0 1 f fd ["_law_size", "_law_jobs_here"] spLTurned := by
  refine F.ok (k := 0) scLTurned (prF_len fun _ => rfl) (fun cdv A outer s H vs Q E hr h => ?_)
  obtain ⟨⟨n, js⟩, ⟨hn, hj⟩, hi, k⟩ := h
  obtain ⟨v1, v2, rfl, h1, h2⟩ := allP2 hi
  have h1 : v1 = nV n := h1
  subst h1
  have hn : n ≤ 7 := hn
  have hj : js.length ≤ 7 := hj
  have h2 : IsGs js v2 H := h2
  refine ⟨_, pss_one (ps_ret (pe_lc (own := [("_law_p", 2)]) (g := gName 2) (tt := tYes) rfl scLTurned.nd (pi_range1 (by rfl) B.range (pa_cons (pv 0) pa_nil)) (blkOk_by (by kernel_rfl)) (fun _ _ _ _ _ => pg_name (i := 2) scLTurned.nd rfl (Or.inr rfl)) (fun _ _ _ _ _ => pts_nil)
      (fun _ _ _ _ _ => pe_ty (k_tup K) B.tuple PyProof.Rows.boot_tuple (pa_cons
        (pe_lc (own := [("_law_at", 3)]) (g := gName 3) (tt := tTest (tOp (rIn K false) (tVar 2) (tOp (rIxL K) (tVar 1) (tVar 3)))) rfl scLTurned.nd (pi_range1 (by rfl) B.range (pa_cons (pe_b (k_len K) B.len PySem.boot_len (pa_cons (pv 1) pa_nil)) pa_nil)) (blkOk_by (by kernel_rfl)) (fun _ _ _ _ _ => pg_name (i := 3) scLTurned.nd rfl (Or.inl rfl))
          (fun _ _ _ _ _ => pts_one (pt_cmpR (k_in K) (pv 2) (pe_ix (k_ixL K) (pv 1) (pv 3) (fun _ _ => rfl)) (by rfl))) (fun _ _ _ _ _ => pv 3)) pa_nil)))), ?_⟩
  refine p_ret (R := IsGs (CL.turnM n js)) ((lcRg n (fun p => IsG ((List.range js.length).filter fun j => (js.getD j []).contains p)) (fun _ => true) (ea_cons (ev_var rfl) ea_nil) (fun _ => stt_G _) (by omega) (fun _ => rfl) (fun a H1 _ _ => et_yes) (fun p H1 hp e _ => ?_)).imp fun v H1 _ r => ?_) fun v H1 e r => k v H1 e r
  · have h2' := stx_Gs js _ _ _ e h2
    refine ep_tupN (g := (List.range js.length).filter fun j => (js.getD j []).contains p) ((lcRg js.length (fun j => IsV (nV j)) (fun j => (js.getD j []).contains p) (ea_cons (ev_is (ev_lenL (Ps := js.map IsG) (ep_var rfl h2' (stx_Gs js))) (by rw [List.length_map])) ea_nil) (fun _ => stt_V _) (by omega) (fun _ => rfl) (fun j H2 hj' e2 => ?_) (fun j H2 _ _ _ => ep_ev (ev_var rfl))).imp fun v H2 _ r => isN_map r)
    refine et_test (ev_inG (g := js.getD j []) (ev_var rfl) (ep_ixL (Ps := js.map IsG) (ep_var rfl (stx_Gs js _ _ _ e2 h2') (stx_Gs js)) (fun P hP => (all_G P hP).x) (ev_var rfl) ?_))
    rw [List.getElem?_map, List.getD_eq_getElem?_getD, List.getElem?_eq_getElem hj']
    rfl
  · rw [filter_yes] at r
    unfold CL.turnM IsGs
    rw [List.map_map]
    exact r
theorem use_lturned {E : XK} {σ : L2.St} {H : Hp} {t1 t2 : TE} {n : Nat} {js : List (List Nat)} (h1 : Ev t1 σ H (nV n)) (h2 : EvP t2 σ H (IsGs js)) (hn : n ≤ 7) (hj : js.length ≤ 7) : EvP (tCall spLTurned [] E (tCons t1 (tCons t2 tNil))) σ H (IsGs (CL.turnM n js)) := by
  unfold spLTurned
  exact ep_fn (out := fun a : Nat × List (List Nat) => IsGs (CL.turnM a.1 a.2)) (n, js) (eap_cons (ep_ev h1) (stt_V _).x (eap_cons h2 (stx_Gs js) eap_nil)) ⟨hn, hj⟩ (stx2 (stt_V _).x (stx_Gs js))
end
end LW

/-! LW10: the law's right table and its filling. -/
namespace CL
theorem asc_of {g : List Nat} (h : g.Pairwise (· ≤ ·)) (nd : g.Nodup) : Asc g := by
  have := List.Pairwise.and h nd
  exact List.Pairwise.imp (fun z => Nat.lt_of_le_of_ne z.1 z.2) this
theorem keys_eq {M : Prs} {g : List Nat} (hs : M.Pairwise (fun e f => e.1 ≤ f.1)) (nd : (M.map (·.1)).Nodup) (hg : Asc g) (hm : ∀ p, p ∈ M.map (·.1) ↔ p ∈ g) : M.map (·.1) = g :=
  asc_ext (asc_of (List.pairwise_map.mpr hs) nd) hg hm
end CL
namespace LW
open PySem L2 Evl CE CB CW
section
variable {K : PySem.W.Frag} {σ : L2.St} {H : Hp}
theorem k_sorted (K : PySem.W.Frag) {X : Cx} (hK : X.K = K := by rfl) : CallR X (.builtin "sorted") (rSorted K) := by subst hK; exact cr_sorted
theorem ep_sortN {te : TE} {g : List Nat} (h : EvP te σ H (IsN g)) (hl : g.length < 64) : EvP (tCB (rSorted K) (tCons te tNil)) σ H (fun v H => ∃ g', g'.Perm g ∧ g'.Pairwise (· ≤ ·) ∧ IsN g' v H) := fun H1 e Q q => h H1 e _ fun v H2 e2 ⟨a, hv, ha⟩ => by
  subst hv
  refine ⟨a, g.map fun n : Nat => (n : Int), rfl, sq_of (by rw [List.map_map]; exact ha), by rw [List.length_map]; exact hl, fun ns' p hp hs hpn => q (.ref p) _ (e2.trans (Ex.new hpn)) ?_⟩
  have nn : ∀ z ∈ ns', ∃ n : Nat, z = n := fun z hz => by
    obtain ⟨n, _, rfl⟩ := List.mem_map.mp (hp.mem_iff.mp hz)
    exact ⟨n, rfl⟩
  have back : (ns'.map Int.toNat).map (fun n : Nat => (n : Int)) = ns' := by
    rw [List.map_map]
    refine (List.map_congr_left fun z hz => ?_).trans (List.map_id ns')
    obtain ⟨n, rfl⟩ := nn z hz
    rfl
  refine ⟨ns'.map Int.toNat, ?_, ?_, p, rfl, ?_⟩
  · have := hp.map Int.toNat
    rw [List.map_map] at this
    refine this.trans (List.Perm.of_eq ((List.map_congr_left fun z _ => ?_).trans (List.map_id g)))
    rfl
  · exact List.pairwise_map.mpr (List.Pairwise.imp (fun {a b} z => by omega) hs)
  · rw [upd_same]
    show some (HO.lst (ns'.map V.int)) = some (HO.lst ((ns'.map Int.toNat).map fun n : Nat => V.int (n : Int)))
    rw [show (fun n : Nat => V.int (n : Int)) = V.int ∘ (fun n : Nat => (n : Int)) from rfl, ← List.map_map, back]
end
section
variable {P : Program} {w : World} {K : PySem.W.Frag} {mg : Str → Option Value} {base : Heap} {C : Addr}
def CalA (P : Program) (w : World) (K : PySem.W.Frag) (mg : Str → Option Value) (base : Heap) (C : Addr) : Prop :=
  ∃ (f : Addr) (fd : FuncData), FnOk P w K mg base CX0 4 f fd ["self"] (spAbs C) ∧ PySem.W.findIn K (.ref C) "__abs__" = some (some (.ref f)) ∧ PySem.W.isFn K (.ref f) = true ∧ Binds K fd ["self"] []
def CalN (P : Program) (w : World) (K : PySem.W.Frag) (mg : Str → Option Value) (base : Heap) (C : Addr) : Prop :=
  ∃ (f : Addr) (fd : FuncData), FnOk P w K mg base CX0 1 f fd ["self", "other"] (spEq C) ∧ PySem.W.findIn K (.ref C) "__eq__" = some (some (.ref f)) ∧ PySem.W.isFn K (.ref f) = true ∧ Binds K fd ["self", "other"] [] ∧
    PySem.W.findIn K (.ref C) "__ne__" = some (some (.builtin "object.__ne__")) ∧ PySem.W.mroIn K C (.type "object") = some true
theorem c_abs {X : Cx} (A : CalA X.prog X.w X.K X.mg X.base C) (hr : Room 5 X.A) : CallR X (.builtin "abs") (rAbsOwn C (spAbs C)) := by
  obtain ⟨f, fd, F, h1, h2, hb⟩ := A
  exact cr_absOwn F hb h1 h2 hr
theorem o_ne {X : Cx} (A : CalN X.prog X.w X.K X.mg X.base C) (hr : Room 2 X.A) : OpR X (compareOp .NotEq) (rNeOwn C (spEq C)) := by
  obtain ⟨f, fd, F, h1, h2, hb, h3, h4⟩ := A
  exact op_neOwn F hb h1 h2 h3 h4 hr
variable {σ : L2.St} {H : Hp} {E : XK}
theorem ev_absJ {te : TE} {n : Nat} {js : List (List Nat)} (h : EvP te σ H (IsJ C n js)) (hn : n ≤ 7) (hj : js.length ≤ 7) : Ev (tCB (rAbsOwn C (spAbs C)) (tCons te tNil)) σ H (nV (CL.full n js)) := fun H1 e Q q => h H1 e _ fun v H2 e2 hv => by
  obtain ⟨a, dx, t, rfl, ha, ht⟩ := id hv
  exact ⟨a, dx, _, rfl, ha, (n, js), ⟨hn, hj⟩, ⟨hv, trivial⟩, fun v H3 e3 hv => by
    have hv : v = nV (CL.full n js) := hv
    subst hv
    exact q H3 (e2.trans e3)⟩
theorem ev_neJ {te tf : TE} {n m : Nat} {js ks : List (List Nat)} (h : EvP te σ H (IsJ C n js)) (h2 : EvP tf σ H (IsJ C m ks)) : Ev (tOp (rNeOwn C (spEq C)) te tf) σ H (.bl (!(decide (n = m) && decide (js = ks)))) :=
  ev_opP h (stx_J C n js) h2 fun x y H1 e hx hy => fun H2 e2 Q q => by
    have hx' := stx_J C n js _ _ _ e2 hx
    have hy' := stx_J C m ks _ _ _ e2 hy
    obtain ⟨a, dx, t, rfl, ha, ht⟩ := id hx'
    obtain ⟨b, dy, t', rfl, hb, ht'⟩ := id hy'
    exact ⟨a, dx, _, b, dy, _, rfl, rfl, ha, hb, ((n, js), (m, ks)), trivial, ⟨hx', hy', trivial⟩, fun v H3 e3 hv => ⟨_, hv, q H3 e3⟩⟩
theorem use_placeable {t1 : TE} {n : Nat} {js : List (List Nat)} (h1 : EvP t1 σ H (IsJ C n js)) (hn : n ≤ 7) (hj : js.length ≤ 7) : EvP (tCall (spPlaceable C) [] E (tCons t1 tNil)) σ H (IsGs (CL.plM n js)) := by
  unfold spPlaceable
  exact ep_fn (out := fun a : Nat × List (List Nat) => IsGs (CL.plM a.1 a.2)) (n, js) (eap_cons h1 (stx_J C n js) eap_nil) ⟨hn, hj⟩ (stx1 (stx_J C n js))
theorem use_strength {t1 t2 : TE} {n : Nat} {js : List (List Nat)} (h1 : EvP t1 σ H (IsJ C n js)) (h2 : EvP t2 σ H (IsG (List.range n))) (hn : n ≤ 7) (hj : js.length ≤ 7) : Ev (tCall (spStrength C) [] E (tCons t1 (tCons t2 tNil))) σ H (nV (CL.full n js)) := by
  refine ev_ep (EvP.imp (P := fun v _ => ∃ m, CL.IsMax js (List.range n) m ∧ v = .int (((List.range n).length : Int) - m)) ?_ fun v H1 e ⟨m, hm, hv⟩ => ?_)
  · unfold spStrength
    exact ep_fn (out := fun (a : Nat × List (List Nat) × List Nat) v _ => ∃ m, CL.IsMax a.2.1 a.2.2 m ∧ v = .int ((a.2.2.length : Int) - m)) (n, js, List.range n) (eap_cons h1 (stx_J C n js) (eap_cons h2 (stt_G _).x eap_nil)) ⟨hj, by show (List.range n).length ≤ 7; rw [List.length_range]; exact hn⟩ (stx2 (stx_J C n js) (stt_G _).x)
  · show v = nV (CL.full n js)
    rw [hv, List.length_range, CL.full_eq hm]
end
section
variable {P : Program} {w : World} {K : PySem.W.Frag} {mg : Str → Option Value} {base : Heap} {C : Addr}
abbrev rtN : List Str := ["_law_made", "_law_size", "_law_can_here", "_law_due", "_law_group"]
def spRight (C : Addr) : Sp := PrF (fun a : Nat × List (List Nat) => [IsJ C a.1 a.2, IsV (nV a.1), IsD (CL.groupsM a.1) (bF (CL.canF a.2))]) (fun a => a.1 ≤ 7 ∧ a.2.length ≤ 7) (fun a => IsV (.bl true))
theorem scRight : FnScope rtN ["_law_made", "_law_size", "_law_can_here"] (defScope sRight) := ⟨rfl, rfl, rfl, by decide +kernel, rfl, by decide +kernel, by decide +kernel⟩
theorem ok_right {f : Addr} {fd : FuncData} (F : Fun K "_law_right_table" "_law_right_table" sRight f fd) (B : Bf mg) (CG : Cal P w K mg base 1 "_law_groups" ["_law_size"] spLGroups) (CP : Cal P w K mg base 2 "placeable" ["jobs"] (spPlaceable C)) (CS : Cal P w K mg base 4 "strength" ["jobs", "group"] (spStrength C)) (CA : CalA P w K mg base C) :
    FnOk P w K mg base CX0 6 f fd ["_law_made", "_law_size", "_law_can_here"] (spRight C) := by
  refine F.ok (k := 5) scRight (prF_len fun _ => rfl) (fun cdv A outer s H vs Q E hr h => ?_)
  obtain ⟨⟨n, js⟩, ⟨hn, hj⟩, hi, k⟩ := h
  obtain ⟨v0, v1, v2, rfl, h0, h1, h2⟩ := allP3 hi
  have h1 : v1 = nV n := h1
  subst h1
  have hn : n ≤ 7 := hn
  have hj : js.length ≤ 7 := hj
  have h0 : IsJ C n js v0 H := h0
  have hu := hu_of hr
  have hu2 := hr.units
  obtain ⟨pd, rfl, hd⟩ := h2
  have hd : H pd = some (.dT (dkv (CL.groupsM n) (bF (CL.canF js)))) := hd
  refine ⟨_, pss_cons (ps_setLc (i := 3) (own := [("_law_group", 4)]) (g := gName 4) (tt := tB (tDGet (tVar 2) (tVar 4))) rfl scRight.nd rfl rfl (by first | exact sw_true rfl rfl rfl (by decide +kernel) | rfl) (k_pil K (pe_fn CG (hr.mono (by omega)) (pa_cons (pv 1) pa_nil))) (blkOk_by (by kernel_rfl)) (fun _ _ _ _ _ => pg_name (i := 4) scRight.nd rfl (Or.inl rfl))
      (fun _ _ _ _ _ => pts_one (pt_val (pe_dget hu (pv 2) (pv 4) (fun _ _ => rfl)))) (fun _ _ _ _ _ => pv 4))
    (pss_one (ps_ret (pe_and (pe_cmpR (k_eqD K hu2) (pe_fn CP (hr.mono (by omega)) (pa_cons (pv 0) pa_nil)) (pv 3) (nomark _))
      (pe_and (pe_cmpR op_eq (pe_fn CS (hr.mono (by omega)) (pa_cons (pv 0) (pa_cons (pe_tupRg rfl (by rfl) B.tuple (prg_1 (by rfl) B.range (pv 1))) pa_nil))) (pe_b (k_len K) B.len PySem.boot_len (pa_cons (pe_ix (k_ixL K) (pv 3) (pe_un un_neg pe_int) (fun _ _ => rfl)) pa_nil)) (nomark _))
      (pe_one (pe_cmpR op_eq (pe_b (c_abs CA hr) B.abs PyProof.Rows.boot_abs (pa_cons (pv 0) pa_nil)) (pe_b (k_len K) B.len PySem.boot_len (pa_cons (pe_ix (k_ixL K) (pv 3) (pe_un un_neg pe_int) (fun _ _ => rfl)) pa_nil)) (nomark _))))))), ?_⟩
  refine pq_asg (lc_pl (js := js) hn (use_lgroups (ev_var rfl) hn) (fun _ => rfl) (fun _ => rfl) fun g v H1 hg e hv => et_B (ev_dGet (L := CL.groupsM n) (f := bF (CL.canF js)) (ep_var rfl ⟨pd, rfl, e _ _ hd⟩ (stx_D _ _)) (ep_var rfl hv (stt_G g).x) (by rw [List.contains_eq_mem, decide_eq_true_iff]; exact hg))) fun vs H1 e1 hvs => ?_
  have hJ := stx_J C n js _ _ _ e1 h0
  have last : Ev (tCB (rLenN K) (tCons (tOp (rIxL K) (tVar 3) (tUn (rU fun i => .int (-i)) (tC (.int 1)))) tNil)) [some v0, some (nV n), some (.ref pd), some vs, none] H1 (nV (CL.full n js)) :=
    ev_lenG (ep_lastPl (n := n) (js := js) (ep_var rfl hvs (stx_Gs _)) (ev_un ev_c ru_neg))
  refine s_ret (v := .bl (decide (CL.plM n js = CL.plM n js) && (decide (nV (CL.full n js) = nV (CL.full n js)) && decide (nV (CL.full n js) = nV (CL.full n js))))) (ev_andV (ev_eqGs (use_placeable (ep_var rfl hJ (stx_J C n js)) hn hj) (ep_var rfl hvs (stx_Gs _))) fun _ => ev_andV (ev_op (use_strength (ep_var rfl hJ (stx_J C n js)) (ep_tupRg (ev_var rfl) (by omega)) hn hj) last (rv_eq rfl)) fun _ => ev_op (ev_absJ (ep_var rfl hJ (stx_J C n js)) hn hj) last (rv_eq rfl)) fun H2 e2 => k _ H2 (e1.trans e2) ?_
  show V.bl _ = V.bl true
  simp
theorem use_right {E : XK} {σ : L2.St} {H : Hp} {t1 t2 t3 : TE} {n : Nat} {js : List (List Nat)} (h1 : EvP t1 σ H (IsJ C n js)) (h2 : Ev t2 σ H (nV n)) (h3 : EvP t3 σ H (IsD (CL.groupsM n) (bF (CL.canF js)))) (hn : n ≤ 7) (hj : js.length ≤ 7) : Ev (tCall (spRight C) [] E (tCons t1 (tCons t2 (tCons t3 tNil)))) σ H (.bl true) := by
  unfold spRight
  exact ev_ep (ep_fn (out := fun a : Nat × List (List Nat) => IsV (.bl true)) (n, js) (eap_cons h1 (stx_J C n js) (eap_cons (ep_ev h2) (stt_V _).x (eap_cons h3 (stx_D _ _) eap_nil))) ⟨hn, hj⟩ (stx3 (stx_J C n js) (stt_V _).x (stx_D _ _)))
/-! ### fill -/
def outB (a : Nat × List (List Nat) × List Nat × List Nat) (v : V) (H : Hp) : Prop := ∃ M : CL.Prs, CL.Mt a.2.1 a.1 M ∧ (∀ p ∈ a.2.2.1, p ∈ M.map (·.1)) ∧ (∀ x ∈ a.2.2.2, x ∈ M.map (·.2)) ∧ M.Pairwise (fun e f => e.1 ≤ f.1) ∧ IsPs M v H
theorem use_both {E : XK} {σ : L2.St} {H : Hp} {t1 t2 t3 : TE} {n : Nat} {js : List (List Nat)} {g b : List Nat} (h1 : EvP t1 σ H (IsJ C n js)) (h2 : EvP t2 σ H (IsG g)) (h3 : EvP t3 σ H (IsG b)) (hn : n ≤ 7) (hj : js.length ≤ 7) (hw : CL.WF n js) (gg : CL.Grp n g) (gb : CL.Grp js.length b) (cg : CL.canF js g = true) (cb : CL.canF (CL.turnM n js) b = true) :
    EvP (tCall (spBoth C) [] E (tCons t1 (tCons t2 (tCons t3 tNil)))) σ H (fun v H => ∃ M, CL.Mt js n M ∧ (∀ p ∈ g, p ∈ M.map (·.1)) ∧ (∀ x ∈ b, x ∈ M.map (·.2)) ∧ M.Pairwise (fun e f => e.1 ≤ f.1) ∧ IsPs M v H) := by
  have := ep_fn (ins := fun a : Nat × List (List Nat) × List Nat × List Nat => [IsJ C a.1 a.2.1, IsG a.2.2.1, IsG a.2.2.2]) (pre := fun a : Nat × List (List Nat) × List Nat × List Nat => a.1 ≤ 7 ∧ a.2.1.length ≤ 7 ∧ CL.WF a.1 a.2.1 ∧ CL.Grp a.1 a.2.2.1 ∧ CL.Grp a.2.1.length a.2.2.2 ∧ CL.canF a.2.1 a.2.2.1 = true ∧ CL.canF (CL.turnM a.1 a.2.1) a.2.2.2 = true)
    (out := outB) (σ := σ) (H := H) (E := E) (ta := tCons t1 (tCons t2 (tCons t3 tNil))) (n, js, g, b)
      (eap_cons h1 (stx_J C n js) (eap_cons h2 (stt_G g).x (eap_cons h3 (stt_G b).x eap_nil))) ⟨hn, hj, hw, gg, gb, cg, cb⟩ (stx3 (stx_J C n js) (stt_G g).x (stt_G b).x)
  exact this
abbrev flN : List Str := ["_law_made", "_law_crew", "_law_picked", "_law_found", "_law_one_here"]
def spFill (C : Addr) : Sp := PrF (fun a : Nat × List (List Nat) × List Nat × List Nat => [IsJ C a.1 a.2.1, IsG a.2.2.1, IsG a.2.2.2])
  (fun a => a.1 ≤ 7 ∧ a.2.1.length ≤ 7 ∧ CL.WF a.1 a.2.1 ∧ a.2.2.1 ∈ CL.setsM a.1 a.2.1 ∧ a.2.2.2 ∈ CL.setsM a.2.1.length (CL.turnM a.1 a.2.1)) (fun _ => IsV (.bl true))
theorem scFill : FnScope flN ["_law_made", "_law_crew", "_law_picked"] (defScope sFill) := ⟨rfl, rfl, rfl, by decide +kernel, rfl, by decide +kernel, by decide +kernel⟩
theorem ok_fill {f : Addr} {fd : FuncData} (F : Fun K "_law_fill" "_law_fill" sFill f fd) (B : Bf mg) (CB' : Cal P w K mg base 22 "both" ["jobs", "group", "wanted"] (spBoth C)) : FnOk P w K mg base CX0 23 f fd ["_law_made", "_law_crew", "_law_picked"] (spFill C) := by
  refine F.ok (k := 22) scFill (prF_len fun _ => rfl) (fun cdv A outer s H vs Q E hr h => ?_)
  obtain ⟨⟨n, js, g, b⟩, ⟨hn, hj, hw, hg, hb⟩, hi, k⟩ := h
  obtain ⟨v0, v1, v2, rfl, h0, h1, h2⟩ := allP3 hi
  have hn : n ≤ 7 := hn
  have hj : js.length ≤ 7 := hj
  have h0 : IsJ C n js v0 H := h0
  have h1 : IsG g v1 H := h1
  have h2 : IsG b v2 H := h2
  obtain ⟨gg, cg, lg⟩ := CL.mem_sets.mp hg
  obtain ⟨gb, cb, lb⟩ := CL.mem_sets.mp hb
  rw [CL.full_turn] at lb
  have hu2 := hr.units
  refine ⟨_, pss_cons (ps_set (i := 3) scFill.nd rfl (Or.inl rfl) (pe_fn CB' hr (pa_cons (pv 0) (pa_cons (pv 1) (pa_cons (pv 2) pa_nil)))))
    (pss_one (ps_ret (pe_and (pe_cmpR (k_eqD K hu2) (pe_lc (own := [("_law_one_here", 4)]) (g := gName 4) (tt := tYes) rfl scFill.nd (k_pil K (pv 3)) (blkOk_by (by kernel_rfl)) (fun _ _ _ _ _ => pg_name (i := 4) scFill.nd rfl (Or.inl rfl)) (fun _ _ _ _ _ => pts_nil) (fun _ _ _ _ _ => pe_ix (k_ixT K) (pv 4) pe_int (fun _ _ => rfl)))
        (pe_ty (k_lst K) B.list PyProof.Rows.boot_list (pa_cons (pv 1) pa_nil)) (nomark _))
      (pe_one (pe_cmpR (k_eqD K hu2) (pe_b (k_sorted K) B.sorted PyProof.Rows.boot_sorted (pa_cons (pe_lc (own := [("_law_one_here", 4)]) (g := gName 4) (tt := tYes) rfl scFill.nd (k_pil K (pv 3)) (blkOk_by (by kernel_rfl)) (fun _ _ _ _ _ => pg_name (i := 4) scFill.nd rfl (Or.inl rfl)) (fun _ _ _ _ _ => pts_nil) (fun _ _ _ _ _ => pe_ix (k_ixT K) (pv 4) pe_int (fun _ _ => rfl))) pa_nil))
        (pe_ty (k_lst K) B.list PyProof.Rows.boot_list (pa_cons (pv 2) pa_nil)) (nomark _)))))), ?_⟩
  refine pq_asg (R := fun v H => ∃ M, CL.Mt js n M ∧ (∀ p ∈ g, p ∈ M.map (·.1)) ∧ (∀ x ∈ b, x ∈ M.map (·.2)) ∧ M.Pairwise (fun e f => e.1 ≤ f.1) ∧ IsPs M v H) ?_ fun v H1 e1 ⟨M, hM, m1, m2, hs, hv⟩ => ?_
  · exact use_both (ep_var rfl h0 (stx_J C n js)) (ep_var rfl h1 (stt_G g).x) (ep_var rfl h2 (stt_G b).x) hn hj hw gg gb cg cb
  · obtain ⟨k1, k2⟩ := CL.both_full gg gb lg lb hM m1 m2
    have hg1 : M.map (·.1) = g := CL.keys_eq hs hM.key gg.asc k1
    have ml : M.length ≤ 7 := Nat.le_trans hM.small hn
    have stS : ∀ x : Nat × Nat, Stx (IsT [IsV (nV x.1), IsV (nV x.2)]) := fun x => stx_T (stx2 (stt_V _).x (stt_V _).x)
    have stP : Stx (IsPs M) := stx_L fun P hP => by
      obtain ⟨x, _, rfl⟩ := List.mem_map.mp hP
      exact stS x
    have col : ∀ (i : Nat) (p : Nat × Nat → Nat) (H2 : Hp), (∀ x : Nat × Nat, ([IsV (nV x.1), IsV (nV x.2)] : List VP)[i]? = some (IsV (nV (p x)))) → Ex H1 H2 → EvP (tLc (iList K (tVar 3)) (gName 4) tYes (tOp (rIxT K) (tVar 4) (tC (nV i))) [4]) [some v0, some v1, some v2, some v, none] H2 (IsN (M.map p)) := fun i p H2 hp e => by
      refine (lcL M (fun x => IsT [IsV (nV x.1), IsV (nV x.2)]) (fun x => IsV (nV (p x))) (fun _ => true) (ep_var rfl (stP _ _ _ e hv) stP) stS (fun _ => stt_V _) (by omega) (fun _ => rfl) (fun a v H3 _ _ _ => et_yes) (fun x v H3 hx e3 hv _ => ep_ixT (ep_var rfl hv (stS x)) (stx2 (stt_V _).x (stt_V _).x) ev_c (hp x))).imp fun v H3 _ r => ?_
      rw [filter_yes] at r
      refine isN_map ?_
      rw [List.map_map]
      exact r
    have e1v := ep_var (σ := [some v0, some v1, some v2, some v, none]) (i := 1) (H := H1) rfl (stt_G g _ _ _ (tx_of e1) h1) (stt_G g).x
    have e2v := ep_var (σ := [some v0, some v1, some v2, some v, none]) (i := 2) (H := H1) rfl (stt_G b _ _ _ (tx_of e1) h2) (stt_G b).x
    have c0 := col 0 (·.1) H1 (fun _ => rfl) (Ex.refl _)
    have c1 := col 1 (·.2) H1 (fun _ => rfl) (Ex.refl _)
    have fin := ev_andV (a := decide (M.map (·.1) = g)) (b := true) (ev_eqN (K := K) c0 (ep_lstG (K := K) e1v)) fun _ => ev_opP (ep_sortN (K := K) c1 (by rw [List.length_map]; omega)) (fun v H H' e ⟨g', a, b, c⟩ => ⟨g', a, b, stx_N g' _ _ _ e c⟩) (ep_lstG (K := K) e2v) fun x y H2 e ⟨g', hp, hs', hx⟩ hy => (by
      have gb' : g' = b := CL.asc_ext (CL.asc_of hs' (hp.nodup_iff.mpr hM.val)) gb.asc fun x => (hp.mem_iff).trans (k2 x)
      subst gb'
      have := rv_eqD (K := K) (fun H2 e2 => dp_N (stx_N g' _ _ _ e2 hx)) (fun H2 e2 => dp_N (stx_N g' _ _ _ e2 hy)) (shaped_N g') (shaped_N g') (eqvAll_dG g' g')
      rw [decide_eq_true rfl] at this
      exact this)
    exact s_ret (ev_is fin (by rw [hg1]; simp)) fun H2 e2 => k _ H2 (e1.trans e2) rfl
end
end LW

/-! LW11: the law's bag. -/
namespace LW
open PySem L2 Evl CE CB CW
abbrev anI : VP := fun v _ => ∃ y : Int, v = .int y
theorem stt_anI : Stt anI := fun v H H' _ h => h
theorem allI_of {H : Hp} {α : Type} : ∀ {L : List α} {xs : List V}, AllP (L.map fun _ => anI) xs H → ∃ zs : List Int, xs = zs.map V.int ∧ zs.length = L.length
  | [], [], _ => ⟨[], rfl, rfl⟩
  | _ :: L, x :: xs, ⟨⟨y, hy⟩, h⟩ => by
    obtain ⟨zs, e, hl⟩ := allI_of h
    exact ⟨y :: zs, by rw [e, hy]; rfl, by rw [List.length_cons, hl, List.length_cons]⟩
  | [], _ :: _, h => by cases h
  | _ :: _, [], h => by cases h
theorem allI_mk {H : Hp} : ∀ zs : List Int, AllP (zs.map isI) (zs.map V.int) H
  | [] => trivial
  | _ :: zs => ⟨rfl, allI_mk zs⟩
section
variable {P : Program} {w : World} {K : PySem.W.Frag} {mg : Str → Option Value} {base : Heap} {C : Addr}
def outBag (v : V) (H : Hp) : Prop := ∃ p l, v = .ref p ∧ Bag p l H
def spBag (K : PySem.W.Frag) : Sp := fun vs H Q _ => ∃ (a : Addr) (zs : List Int), vs = [.ref a] ∧ SqL K H a (zs.map V.int) ∧ zs.length ≤ 1000 ∧ ∀ v H', Ex H H' → outBag v H' → Q v H'
theorem scBag : FnScope ["_law_script", "_law_cell"] ["_law_script"] (defScope sBag) := ⟨rfl, rfl, rfl, by decide +kernel, rfl, by decide +kernel, by decide +kernel⟩
theorem ok_bag {f : Addr} {fd : FuncData} (F : Fun K "_law_bag" "_law_bag" sBag f fd) (B : Bf mg) : FnOk P w K mg base CX0 1 f fd ["_law_script"] (spBag K) := by
  refine F.ok (k := 0) scBag (fun vs H Q E h => ?_) (fun cdv A outer s H vs Q E hr h => ?_)
  · obtain ⟨a, zs, rfl, _⟩ := h
    rfl
  obtain ⟨a, zs, rfl, hS, hz, k⟩ := h
  refine ⟨_, pss_one (ps_ret (pe_lst (pa_cons pe_int (pa_cons pe_int (pa_cons pe_int (pa_cons
    (pe_lc (own := [("_law_cell", 1)]) (g := gName 1) (tt := tYes) rfl scBag.nd (k_pil K (pe_slice (k_slL K) (pv 0) po_none (po_some pe_int))) (blkOk_by (by kernel_rfl)) (fun _ _ _ _ _ => pg_name (i := 1) scBag.nd rfl (Or.inl rfl)) (fun _ _ _ _ _ => pts_nil)
      (fun _ _ _ _ _ => pe_b cr_absI B.abs PyProof.Rows.boot_abs (pa_cons (pv 1) pa_nil))) pa_nil)))))), ?_⟩
  have hcells : EvP (tSl (rSlL K) (tVar 0) tNoPart (tPart (tC (.int 63)))) [some (.ref a), none] H (IsL ((((zs.drop (HT.sIx zs.length 0 none)).take (HT.sIx zs.length zs.length (some 63) - HT.sIx zs.length 0 none)).map isI))) := fun H1 e Q q => by
    refine el_sl (K := K) (lo := none) (hi := some 63) (ev_var rfl) eo_none (eo_some ev_c) (ex_l e hS) H1 (Ex.refl _) Q fun p H2 hp e2 h2 => q (.ref p) H2 e2 ⟨p, _, rfl, h2, ?_⟩
    unfold cutV
    rw [List.length_map, ← List.map_drop, ← List.map_take]
    exact allI_mk _
  generalize hys : (zs.drop (HT.sIx zs.length 0 none)).take (HT.sIx zs.length zs.length (some 63) - HT.sIx zs.length 0 none) = ys at hcells
  have hyl : ys.length ≤ 1000 := by
    rw [← hys, List.length_take, List.length_drop]
    omega
  refine p_ret (R := outBag) (EvP.imp (ep_lst (Ps := [IsV (.int 0), IsV (.int 987654321), IsV (.int 0), IsL ((ys.filter fun _ => true).map fun _ => anI)])
    (eap_cons (ep_ev ev_c) (stt_V _).x (eap_cons (ep_ev ev_c) (stt_V _).x (eap_cons (ep_ev ev_c) (stt_V _).x (eap_cons (lcL ys isI (fun _ => anI) (fun _ => true) hcells (fun _ => (stt_V _).x) (fun _ => stt_anI) (by omega) (fun _ => rfl) (fun a v H3 _ _ _ => et_yes) (fun z v H3 _ _ hv _ => ?_)) (stx_L fun P hP => ?_) eap_nil)))) ?_ (by simp)) ?_) fun v H1 e hv => k v H1 e hv
  · have hv : v = .int z := hv
    subst hv
    exact fun H1 e Q q => ev_var (v := V.int z) rfl H1 e _ fun H2 e2 => ⟨z, rfl, fun y => q (.int y) H2 e2 ⟨y, rfl⟩⟩
  · obtain ⟨z, _, rfl⟩ := List.mem_map.mp hP
    exact stt_anI.x
  · intro P hP
    simp only [List.mem_cons, List.not_mem_nil, or_false] at hP
    rcases hP with rfl | rfl | rfl | rfl
    · exact (stt_V _).x
    · exact (stt_V _).x
    · exact (stt_V _).x
    · refine stx_L fun P hP => ?_
      obtain ⟨z, _, rfl⟩ := List.mem_map.mp hP
      exact stt_anI.x
  · rintro v H1 e ⟨p, xs, rfl, hp, hx⟩
    match xs, hx with
    | [x0, x1, x2, x3], ⟨z0, z1, z2, ⟨l, ls, z3, hl, hls⟩, _⟩ =>
      have z0 : x0 = .int 0 := z0
      have z1 : x1 = .int 987654321 := z1
      have z2 : x2 = .int 0 := z2
      subst z0 z1 z2 z3
      obtain ⟨ws, rfl, hw⟩ := allI_of hls
      refine ⟨p, l, rfl, 0, 987654321, 0, ws, hp, hl, fun z => ?_, ?_⟩
      · subst z
        rw [hp] at hl
        have := HO.lst.inj (Option.some.inj hl)
        match ws, this with
        | [_, _, _, d], this => cases this
      · rw [hw, filter_yes]
        exact hyl
theorem use_bag {E : XK} {σ : L2.St} {H : Hp} {t1 : TE} {a : Addr} {zs : List Int} (h1 : Ev t1 σ H (.ref a)) (hS : SqL K H a (zs.map V.int)) (hz : zs.length ≤ 1000) : EvP (tCall (spBag K) [] E (tCons t1 tNil)) σ H outBag := fun H1 e Q q => h1 H1 e _ fun H2 e2 =>
  ⟨a, zs, rfl, ex_l (e.trans e2) hS, hz, fun v H3 e3 hv => q v H3 (e2.trans e3) hv⟩
end
end LW

/-! LW12: the law. -/
namespace CL
theorem sets_ne (n : Nat) (js : List (List Nat)) : setsM n js ≠ [] := fun e => by
  have hm := mem_plM.mp (last_mem n js)
  have : lastG n js ∈ setsM n js := mem_sets.mpr ⟨hm.1, hm.2, rfl⟩
  rw [e] at this
  cases this
theorem sets_len {n : Nat} (js : List (List Nat)) (hn : n ≤ 7) : (setsM n js).length ≤ 128 := by
  unfold setsM
  exact Nat.le_trans (List.length_filter_le _ _) (plM_len js hn)
theorem enough_self {n : Nat} {js : List (List Nat)} {b : List Nat} (h : b ∈ setsM js.length (turnM n js)) : plM n (pickJ js b) = plM n js :=
  (enough (mem_sets.mp h).1).mpr ⟨b, h, fun w hw => hw⟩
/-- the least sets within s -/
def fullM (S : List (List Nat)) (s : List Nat) : List (List Nat) := S.filter fun b => decide ((b.filter fun j => !s.contains j) = [])
theorem full_iff {S : List (List Nat)} {s : List Nat} : fullM S s ≠ [] ↔ ∃ b ∈ S, ∀ w ∈ b, w ∈ s := by
  unfold fullM
  rw [ne_eq, List.filter_eq_nil_iff]
  constructor
  · intro h
    by_cases z : ∃ b ∈ S, ∀ w ∈ b, w ∈ s
    · exact z
    · refine absurd (fun b hb => ?_) h
      intro q
      rw [decide_eq_true_iff, List.filter_eq_nil_iff] at q
      exact z ⟨b, hb, fun w hw => by simpa using q w hw⟩
  · rintro ⟨b, hb, hw⟩ h
    refine h b hb ?_
    rw [decide_eq_true_iff, List.filter_eq_nil_iff]
    intro w hw'
    simpa using hw w hw'
theorem enough_dec {n : Nat} {js : List (List Nat)} {s : List Nat} (hs : Grp js.length s) : decide (plM n (pickJ js s) = plM n js) = !decide (fullM (setsM js.length (turnM n js)) s = []) := by
  rw [Bool.eq_iff_iff, decide_eq_true_iff, enough hs, ← full_iff]
  simp
end CL
namespace LW
open PySem L2 Evl CE CB CW
section
variable {K : PySem.W.Frag} {σ : L2.St} {H : Hp} {D : Ends} {tz ta tb tu : TS} {t u : TT} {t0 te : TE} {p l : Addr} {P : VP} {E E' : XK} {R : Bool → Prop} {C : Addr}
theorem q_noB (h : TdB t σ H p l (fun b => b = false)) (k : ∀ H1, Xp p H H1 → Bag p l H1 → tz D σ H1) : tSeq (tIfS t tu tNext) tz D σ H :=
  s_ifB (D := { D with nx := tz D }) h (fun z => by cases z) (fun _ H1 x hb => k H1 x hb)
theorem isN_nil : EvP (tLst tNil) σ H (IsN []) := fun H1 e Q q => ⟨Nat.zero_le _, fun p hp => q (.ref p) _ (Ex.new hp) ⟨p, rfl, upd_same⟩⟩
theorem stb_I (g : List Nat) : Stb (IsL (g.map fun n => IsV (nV n))) := fun p l v H H' hb x h => isL_of_N (stb_N g p l v H H' hb x (isN_of h))
theorem td_fill {t4 t9 t12 : TE} {n : Nat} {js : List (List Nat)} {b : List Nat} (h0 : ∀ H, Ev t0 σ H (.ref p)) (h4 : EvP t4 σ H (IsJ C n js)) (h9 : EvP t9 σ H (IsGs (CL.setsM n js))) (hb : Bag p l H) (h12 : ∀ H1, Xp p H H1 → EvP t12 σ H1 (IsG b)) (hn : n ≤ 7) (hj : js.length ≤ 7) (hw : CL.WF n js)
    (hm : b ∈ CL.setsM js.length (CL.turnM n js)) : TdB (tNot (tB (tCall (spFill C) [] E (tCons t4 (tCons (tCall spOne [] E' (tCons t0 (tCons t9 tNil))) (tCons t12 tNil)))))) σ H p l (fun b => b = false) := fun Q q =>
  h4 H (Ex.refl H) _ fun v4 H1 e1 hv4 => use_one (h0 H1) (hb.ex e1) (h9.mono e1) (fun z => CL.sets_ne n js (List.map_eq_nil_iff.mp z)) (by rw [List.length_map]; have := CL.sets_len js hn; omega) (stb_Gs _) (fun P hP => (all_G P hP).x) _ fun v5 H2 x2 hb2 ⟨P, hP, hv5⟩ => by
    obtain ⟨g, hg, rfl⟩ := List.mem_map.mp hP
    have X2 := Xp.trans (xp_of e1) x2
    refine h12 H2 X2 H2 (Ex.refl H2) _ fun v6 H3 e3 hv6 => ?_
    have hv4' : IsJ C n js v4 H3 := stx_J C n js _ _ _ e3 (stb_J C n js p l _ _ _ (hb.ex e1) x2 hv4)
    exact ⟨(n, js, g, b), ⟨hn, hj, hw, hg, hm⟩, ⟨hv4', (stt_G g).x _ _ _ e3 hv5, hv6, trivial⟩, fun v H4 e4 hv => ⟨true, hv, q (!true) H4 ((X2.ex e3).ex e4) ((hb2.ex e3).ex e4) rfl⟩⟩
def outJ (a : Nat × Nat) (v : V) (H : Hp) : Prop := ∃ js : List (List Nat), js.length ≤ a.2 ∧ CL.WF a.1 js ∧ IsGs js v H
theorem use_jobs {t1 t2 : TE} {n m : Nat} (h0 : Ev t0 σ H (.ref p)) (hb : Bag p l H) (h1 : Ev t1 σ H (nV n)) (h2 : Ev t2 σ H (nV m)) (hn : n ≤ 7) (hm : m ≤ 7) : RdB (tCall spJobs [] E (tCons t0 (tCons t1 (tCons t2 tNil)))) σ H p l (fun v H => ∃ js : List (List Nat), js.length ≤ m ∧ CL.WF n js ∧ IsGs js v H) := by
  have := eb_call (E := E) (ins := fun a : Nat × Nat => [IsV (nV a.1), IsV (nV a.2)]) (pre := fun a : Nat × Nat => a.1 ≤ 7 ∧ a.2 ≤ 7) (out := outJ) (n, m) h0 hb (eap_cons (ep_ev h1) (stt_V _).x (eap_cons (ep_ev h2) (stt_V _).x eap_nil)) ⟨hn, hm⟩
  exact this
theorem rd_tup {te : TE} {R : List Nat → Prop} (h : RdB te σ H p l (fun v H => ∃ g, R g ∧ IsN g v H)) : RdB (tCB (rTupO K) (tCons te tNil)) σ H p l (fun v H => ∃ g, R g ∧ IsG g v H) := fun Q q => h _ fun v H1 x hb ⟨g, hg, hv⟩ =>
  ep_tupN (K := K) (g := g) (te := fun _ H Q => Q v H) (σ := σ) (H := H1) (fun H2 e2 Q2 q2 => q2 v H2 (Ex.refl _) (stx_N g _ _ _ e2 hv)) H1 (Ex.refl _) Q fun v2 H2 e2 hv2 => q v2 H2 (x.ex e2) (hb.ex e2) ⟨g, hg, hv2⟩
end
section
variable {P : Program} {w : World} {K : PySem.W.Frag} {mg : Str → Option Value} {base : Heap} {C : Addr}
abbrev lawN : List Str := ["_law_script", "_law_bag_here", "_law_size", "_law_jobs_here", "_law_made", "_law_turned_here", "_law_can_here", "_law_can_fill", "_law_back", "_law_crews_here", "_law_sets", "_law_turn", "_law_picked", "_law_some_here", "_law_full", "_law_one_here", "_law_at"]
def spLaw (K : PySem.W.Frag) : Sp := fun vs H Q _ => ∃ (a : Addr) (zs : List Int), vs = [.ref a] ∧ SqL K H a (zs.map V.int) ∧ zs.length ≤ 1000 ∧ ∀ H', Q (.bl true) H'
theorem scLaw : FnScope lawN ["_law_script"] (defScope sLaw) := ⟨rfl, rfl, rfl, by decide +kernel, rfl, by decide +kernel, by decide +kernel⟩
structure AllC (P : Program) (w : World) (K : PySem.W.Frag) (mg : Str → Option Value) (base : Heap) (C : Addr) : Prop where
  T : TJ K mg C
  B : Bf mg
  make : CalI P w K mg base 4 C
  picked : CalM P w K mg base 6 C "picked" ["self", "indexes"] (spPicked C)
  turned : CalM P w K mg base 6 C "turned" ["self"] (spTurned C)
  ne : CalN P w K mg base C
  placeable : Cal P w K mg base 2 "placeable" ["jobs"] (spPlaceable C)
  bag : Cal P w K mg base 1 "_law_bag" ["_law_script"] (spBag K)
  one : Cal P w K mg base 2 "_law_one" ["_law_bag_here", "_law_things"] spOne
  some : Cal P w K mg base 3 "_law_some" ["_law_bag_here", "_law_things"] spSome
  jobs : Cal P w K mg base 5 "_law_jobs" ["_law_bag_here", "_law_size", "_law_most"] spJobs
  can : Cal P w K mg base 2 "_law_can" ["_law_size", "_law_jobs_here"] spCan
  crews : Cal P w K mg base 2 "_law_crews" ["_law_size", "_law_can_here"] spCrews
  lturned : Cal P w K mg base 1 "_law_turned" ["_law_size", "_law_jobs_here"] spLTurned
  right : Cal P w K mg base 6 "_law_right_table" ["_law_made", "_law_size", "_law_can_here"] (spRight C)
  fill : Cal P w K mg base 23 "_law_fill" ["_law_made", "_law_crew", "_law_picked"] (spFill C)
theorem ok_law {f : Addr} {fd : FuncData} (F : Fun K "law" "law" sLaw f fd) (c : AllC P w K mg base C) : FnOk P w K mg base CX0 24 f fd ["_law_script"] (spLaw K) := by
  have B := c.B
  have T := c.T
  refine F.ok (k := 23) scLaw (fun vs H Q E h => ?_) (fun cdv A outer s H vs Q E hr h => ?_)
  · obtain ⟨a, zs, rfl, _⟩ := h
    rfl
  obtain ⟨a, zs, rfl, hS, hz, k⟩ := h
  generalize hv0 : V.ref a = v0
  have hu := hr.units
  refine ⟨_, pss_cons (ps_set (i := 1) scLaw.nd rfl (Or.inl rfl) (pe_fn c.bag (hr.mono (by omega)) (pa_cons (pv 0) pa_nil)))
    (pss_cons (ps_set (i := 2) scLaw.nd rfl (Or.inl rfl) (pe_fn c.one (hr.mono (by omega)) (pa_cons (pv 1) (pa_cons (pe_lst (pa_cons pe_int (pa_cons pe_int (pa_cons pe_int (pa_cons pe_int (pa_cons pe_int (pa_cons pe_int (pa_cons pe_int (pa_cons pe_int pa_nil))))))))) pa_nil))))
    (pss_cons (ps_set (i := 3) scLaw.nd rfl (Or.inl rfl) (pe_fn c.jobs (hr.mono (by omega)) (pa_cons (pv 1) (pa_cons (pv 2) (pa_cons pe_int pa_nil)))))
    (pss_cons (ps_par (i := 4) (j := 5) rfl scLaw.nd rfl rfl (by decide) rfl rfl (pa_cons (pe_mk T c.make (hr.mono (by omega)) (pa_cons (pv 2) (pa_cons (pe_ty (k_lst K) B.list PyProof.Rows.boot_list (pa_cons (pv 3) pa_nil)) pa_nil))) (pa_cons (pe_fn c.lturned (hr.mono (by omega)) (pa_cons (pv 2) (pa_cons (pv 3) pa_nil))) pa_nil)) (by rfl))
    (pss_cons (ps_par (i := 6) (j := 7) rfl scLaw.nd rfl rfl (by decide) rfl rfl (pa_cons (pe_fn c.can (hr.mono (by omega)) (pa_cons (pv 2) (pa_cons (pv 3) pa_nil))) (pa_cons (pe_fn c.can (hr.mono (by omega)) (pa_cons (pe_b (k_len K) B.len PySem.boot_len (pa_cons (pv 3) pa_nil)) (pa_cons (pv 5) pa_nil))) pa_nil)) (by rfl))
    (pss_cons (ps_set (i := 8) scLaw.nd rfl (Or.inl rfl) (pe_mth0 T c.turned (hr.mono (by omega)) (pv 4)))
    (pss_cons (ps_if (PW.pt (pw_or (pt_cmpR op_ne (k_fld K (pv 8)) (pe_b (k_len K) B.len PySem.boot_len (pa_cons (pv 3) pa_nil)) (nomark _)) (pw_or (pt_cmpR (k_neD K hu) (k_fld K (pv 8)) (pe_ty (k_tup K) B.tuple PyProof.Rows.boot_tuple (pa_cons (pv 5) pa_nil)) (nomark _)) (pw_or1 (pt_cmpR (o_ne c.ne (hr.mono (by omega))) (pe_mth0 T c.turned (hr.mono (by omega)) (pv 8)) (pv 4) (nomark _)))))) (pss_one ps_never) pss_nil)
    (pss_cons (ps_if (PW.pt (pw_or (pt_not (pt_val (pe_fn c.right (hr.mono (by omega)) (pa_cons (pv 4) (pa_cons (pv 2) (pa_cons (pv 6) pa_nil)))))) (pw_or1 (pt_not (pt_val (pe_fn c.right (hr.mono (by omega)) (pa_cons (pv 8) (pa_cons (pe_b (k_len K) B.len PySem.boot_len (pa_cons (pv 3) pa_nil)) (pa_cons (pv 7) pa_nil))))))))) (pss_one ps_never) pss_nil)
    (pss_cons (ps_par (i := 9) (j := 10) rfl scLaw.nd rfl rfl (by decide) rfl rfl (pa_cons (pe_fn c.crews (hr.mono (by omega)) (pa_cons (pv 2) (pa_cons (pv 6) pa_nil))) (pa_cons (pe_fn c.crews (hr.mono (by omega)) (pa_cons (pe_b (k_len K) B.len PySem.boot_len (pa_cons (pv 3) pa_nil)) (pa_cons (pv 7) pa_nil))) pa_nil)) (by rfl))
    (pss_cons (ps_for PassesOwn.never rfl (pi_range1 (by rfl) B.range (pa_cons pe_int pa_nil)) (pg_name (i := 11) scLaw.nd rfl (Or.inl rfl))
      (pss_cons (ps_set (i := 12) scLaw.nd rfl (Or.inl rfl) (pe_fn c.one (hr.mono (by omega)) (pa_cons (pv 1) (pa_cons (pv 10) pa_nil))))
      (pss_cons (ps_if (pt_not (pt_val (pe_fn c.fill hr (pa_cons (pv 4) (pa_cons (pe_fn c.one (hr.mono (by omega)) (pa_cons (pv 1) (pa_cons (pv 9) pa_nil))) (pa_cons (pv 12) pa_nil)))))) (pss_one ps_never) pss_nil)
      (pss_cons (ps_if (pt_cmpR (k_neD K hu) (pe_fn c.placeable (hr.mono (by omega)) (pa_cons (pe_mth T c.picked (hr.mono (by omega)) (pv 4) (pa_cons (pv 12) pa_nil)) pa_nil)) (pe_fn c.placeable (hr.mono (by omega)) (pa_cons (pv 4) pa_nil)) (nomark _)) (pss_one ps_never) pss_nil)
      (pss_cons (ps_set (i := 13) scLaw.nd rfl (Or.inr rfl) (pe_ty (k_tup K) B.tuple PyProof.Rows.boot_tuple (pa_cons (pe_fn c.some (hr.mono (by omega)) (pa_cons (pv 1) (pa_cons (pe_listRg rfl (by rfl) B.list (prg_1 (by rfl) B.range (pe_b (k_len K) B.len PySem.boot_len (pa_cons (pv 3) pa_nil)))) pa_nil))) pa_nil)))
      (pss_cons (ps_setLc (i := 14) (own := [("_law_one_here", 15)]) (g := gName 15) (tt := tTest (tOp (rEqD K) (tLc (iTup K (tVar 15)) (gName 16) (tTest (tOp (rIn K true) (tVar 16) (tVar 13))) (tVar 16) [16]) (tLst tNil))) rfl scLaw.nd rfl rfl (by first | exact sw_true rfl rfl rfl (by decide +kernel) | rfl) (k_pil K (pv 10)) (blkOk_by (by kernel_rfl)) (fun _ _ _ _ _ => pg_name (i := 15) scLaw.nd rfl (Or.inl rfl))
          (fun _ _ _ _ _ => pts_one (pt_cmpR (k_eqD K hu) (pe_lc (own := [("_law_at", 16)]) (g := gName 16) (tt := tTest (tOp (rIn K true) (tVar 16) (tVar 13))) rfl scLaw.nd (k_pit K (pv 15)) (blkOk_by (by kernel_rfl)) (fun _ _ _ _ _ => pg_name (i := 16) scLaw.nd rfl (Or.inl rfl)) (fun _ _ _ _ _ => pts_one (pt_cmpR (k_ni K) (pv 16) (pv 13) (by rfl))) (fun _ _ _ _ _ => pv 16)) (pe_lst pa_nil) (nomark _))) (fun _ _ _ _ _ => pv 15))
      (pss_one (ps_if (pt_cmpR op_ne (pe_cmpR (k_eqD K hu) (pe_fn c.placeable (hr.mono (by omega)) (pa_cons (pe_mth T c.picked (hr.mono (by omega)) (pv 4) (pa_cons (pv 13) pa_nil)) pa_nil)) (pe_fn c.placeable (hr.mono (by omega)) (pa_cons (pv 4) pa_nil)) (nomark _)) (pe_cmpR (k_neD K hu) (pv 14) (pe_lst pa_nil) (nomark _)) (nomark _)) (pss_one ps_never) pss_nil)))))))
    ) (pss_one (ps_ret (pe_cmpR (k_eqD K hu) (k_fld K (pv 4)) (pe_ty (k_tup K) B.tuple PyProof.Rows.boot_tuple (pa_cons (pv 3) pa_nil)) (nomark _))))))))))))), ?_⟩
  refine pq_asg (use_bag (a := a) (zs := zs) (ev_is (ev_var rfl) hv0.symm) hS hz) fun vb0 H1 e1 ⟨p, l, hvb, hb⟩ => ?_
  subst hvb
  refine q_asgB (use_one (Ps := [5, 4, 6, 3, 7, 2, 1, 0].map fun n => IsV (nV n)) (ev_var rfl) hb (ep_lst (eap_cons (ep_ev ev_c) (stt_V _).x (eap_cons (ep_ev ev_c) (stt_V _).x (eap_cons (ep_ev ev_c) (stt_V _).x (eap_cons (ep_ev ev_c) (stt_V _).x (eap_cons (ep_ev ev_c) (stt_V _).x (eap_cons (ep_ev ev_c) (stt_V _).x (eap_cons (ep_ev ev_c) (stt_V _).x (eap_cons (ep_ev ev_c) (stt_V _).x eap_nil)))))))) (fun P hP => by
      obtain ⟨z, _, rfl⟩ := List.mem_map.mp hP
      exact (stt_V _).x) (by simp)) (by simp) (by simp) (stb_I _) (fun P hP => by
      obtain ⟨z, _, rfl⟩ := List.mem_map.mp hP
      exact (stt_V _).x)) fun vn H2 x2 hb2 ⟨P, hP, hvn⟩ => ?_
  obtain ⟨n, hn, rfl⟩ := List.mem_map.mp hP
  have hn : n ≤ 7 := by
    simp only [List.mem_cons, List.not_mem_nil, or_false] at hn
    omega
  have hvn : vn = nV n := hvn
  subst hvn
  refine q_asgB (use_jobs (n := n) (m := 7) (ev_var rfl) hb2 (ev_var rfl) ev_c hn (Nat.le_refl 7)) fun vjs H3 x3 hb3 ⟨js, hj, hw, hvjs⟩ => ?_
  refine q_par (Ps := IsJ C n js) (Qs := IsGs (CL.turnM n js)) (eap_cons (use_make (ev_var rfl) (ep_lstL (Ps := js.map IsG) (ep_var rfl hvjs (stx_Gs js)) (fun P hP => (all_G P hP).x)) hn hj hw) (stx_J C n js) (eap_cons (use_lturned (ev_var rfl) (ep_var rfl hvjs (stx_Gs js)) hn hj) (stx_Gs _) eap_nil)) fun vm vt H4 e4 hvm hvt => ?_
  have hvjs4 := stx_Gs js _ _ _ e4 hvjs
  have hb4 := hb3.ex e4
  have tl : (CL.turnM n js).length ≤ 7 := by rw [CL.turn_len]; exact hn
  have lenJ : ∀ {σ : L2.St} {H : Hp}, σ[3]? = some (some vjs) → IsGs js vjs H → Ev (tCB (rLenN K) (tCons (tVar 3) tNil)) σ H (nV js.length) := fun h h2 => ev_is (ev_lenL (Ps := js.map IsG) (ep_var h h2 (stx_Gs js))) (by rw [List.length_map])
  refine q_par (Ps := IsD (CL.groupsM n) (bF (CL.canF js))) (Qs := IsD (CL.groupsM js.length) (bF (CL.canF (CL.turnM n js)))) (eap_cons (use_can (ev_var rfl) (ep_var rfl hvjs4 (stx_Gs js)) hn hj) (stx_D _ _) (eap_cons (use_can (lenJ rfl hvjs4) (ep_var rfl hvt (stx_Gs _)) hj tl) (stx_D _ _) eap_nil)) fun vc vf H5 e5 hvc hvf => ?_
  refine pq_asg (use_turned (ep_var rfl (stx_J C n js _ _ _ e5 hvm) (stx_J C n js)) hn hj) fun vk H6 e6 hvk => ?_
  have e46 := e5.trans e6
  have hvm6 := stx_J C n js _ _ _ e46 hvm
  have hvt6 := stx_Gs _ _ _ _ e46 hvt
  have hvjs6 := stx_Gs js _ _ _ e46 hvjs4
  refine q_when (b := false) (et_is (et_or (et_test (ev_op (ev_size T (ep_var rfl hvk (stx_J C _ _))) (lenJ rfl hvjs6) (rv_ne rfl))) fun _ => et_or (et_test (ev_neTG (ep_jobs T (ep_var rfl hvk (stx_J C _ _))) (ep_tupL (ep_var rfl hvt6 (stx_Gs _)) (fun P hP => (all_G P hP).x)))) fun _ => et_test (ev_neJ (use_turned (ep_var rfl hvk (stx_J C _ _)) hj tl) (ep_var rfl hvm6 (stx_J C n js)))) (by
      rw [CL.turn_turn hw, CL.turn_len]
      simp)) (fun z => by cases z) fun _ H7 e7 => ?_
  have e47 := e46.trans e7
  have hvm7 := stx_J C n js _ _ _ e7 hvm6
  have hvk7 := stx_J C _ _ _ _ _ e7 hvk
  have hvc7 := stx_D _ _ _ _ _ (e6.trans e7) hvc
  have hvf7 := stx_D _ _ _ _ _ (e6.trans e7) hvf
  have hvjs7 := stx_Gs js _ _ _ e7 hvjs6
  refine q_when (b := false) (et_is (et_or (et_not (et_B (use_right (ep_var rfl hvm7 (stx_J C n js)) (ev_var rfl) (ep_var rfl hvc7 (stx_D _ _)) hn hj))) fun _ => et_not (et_B (use_right (ep_var rfl hvk7 (stx_J C _ _)) (lenJ rfl hvjs7) (ep_var rfl hvf7 (stx_D _ _)) hj tl))) rfl) (fun z => by cases z) fun _ H8 e8 => ?_
  refine q_par (Ps := IsGs (CL.setsM n js)) (Qs := IsGs (CL.setsM js.length (CL.turnM n js))) (eap_cons (use_crews (ev_var rfl) (ep_var rfl (stx_D _ _ _ _ _ e8 hvc7) (stx_D _ _)) hn hj) (stx_Gs _) (eap_cons (use_crews (lenJ rfl (stx_Gs js _ _ _ e8 hvjs7)) (ep_var rfl (stx_D _ _ _ _ _ e8 hvf7) (stx_D _ _)) hj tl) (stx_Gs _) eap_nil)) fun vcr vs H9 e9 hvcr hvs => ?_
  have e49 := (e47.trans e8).trans e9
  have hvm9 := stx_J C n js _ _ _ e49 hvm
  have hvjs9 := stx_Gs js _ _ _ e49 hvjs4
  have hb9 := hb4.ex e49
  refine ⟨(3 : Int), rfl, by decide, by decide, for_range (lo := 0) (n := 3) (fun i σ' H' => ∃ x11 x12 x13 x14, σ' = [some v0, some (.ref p), some (nV n), some vjs, some vm, some vt, some vc, some vf, some vk, some vcr, some vs, x11, x12, x13, x14, none, none] ∧ Xp p H9 H' ∧ Bag p l H') ⟨none, none, none, none, rfl, Xp.refl _ _, hb9⟩ ?_ ?_⟩
  · rintro i σ' H10 hi ⟨x11, x12, x13, x14, rfl, x10, hb10⟩
    have hvs10 := stb_Gs _ p l _ _ _ hb9 x10 hvs
    refine q_asgB (use_one (Ps := (CL.setsM js.length (CL.turnM n js)).map IsG) (ev_var rfl) hb10 (ep_var rfl hvs10 (stx_Gs _)) (fun z => CL.sets_ne _ _ (List.map_eq_nil_iff.mp z)) (by rw [List.length_map]; have := CL.sets_len (CL.turnM n js) hj; omega) (stb_Gs _) (fun P hP => (all_G P hP).x)) fun vpk H11 x11' hb11 ⟨P, hP, hvpk⟩ => ?_
    obtain ⟨b, hb', rfl⟩ := List.mem_map.mp hP
    have X11 := Xp.trans x10 x11'
    refine q_noB (td_fill (C := C) (n := n) (js := js) (b := b) (fun H => ev_var rfl) (ep_var rfl (stb_J C n js p l _ _ _ hb9 X11 hvm9) (stx_J C n js)) (ep_var rfl (stb_Gs _ p l _ _ _ hb9 X11 hvcr) (stx_Gs _)) hb11 (fun H12 x12' => ep_var rfl (stb_of (stt_G b) p l _ _ _ hb11 x12' hvpk) (stt_G b).x) hn hj hw hb') fun H12 x12' hb12 => ?_
    have X12 := Xp.trans X11 x12'
    have hvm12 := stb_J C n js p l _ _ _ hb9 X12 hvm9
    have hvpk12 : IsG b vpk H12 := stb_of (stt_G b) p l _ _ _ hb11 x12' hvpk
    have gb := (CL.mem_sets.mp hb').1
    refine q_when (b := false) (et_is (et_test (ev_neGs (use_placeable (use_picked (ep_var rfl hvm12 (stx_J C n js)) (ep_var rfl hvpk12 (stt_G b).x) hn hj hw gb) hn (by unfold CL.pickJ; rw [List.length_map]; have := gb.len; omega)) (use_placeable (ep_var rfl hvm12 (stx_J C n js)) hn hj))) (by rw [CL.enough_self hb']; simp)) (fun z => by cases z) fun _ H13 e13 => ?_
    have X13 := X12.ex e13
    have hb13 := hb12.ex e13
    refine q_asgB (rd_tup (R := fun g => g.Sublist (List.range js.length)) (use_some (g := List.range js.length) (ev_var rfl) hb13 (ep_lstRg (lenJ rfl (stb_Gs js p l _ _ _ hb9 X13 hvjs9)) (by omega)) (by rw [List.length_range]; omega))) fun vsm H14 x14' hb14 ⟨s, hs, hvsm⟩ => ?_
    have X14 := Xp.trans X13 x14'
    have gs := CL.sub_range hs
    have hvs14 := stb_Gs _ p l _ _ _ hb9 X14 hvs
    have hvm14 := stb_J C n js p l _ _ _ hb9 X14 hvm9
    refine pq_asg (R := IsGs (CL.fullM (CL.setsM js.length (CL.turnM n js)) s)) (lcL (CL.setsM js.length (CL.turnM n js)) IsG IsG (fun b => decide ((b.filter fun j => !s.contains j) = [])) (ep_var rfl hvs14 (stx_Gs _)) (fun a => (stt_G a).x) stt_G (by have := CL.sets_len (CL.turnM n js) hj; omega) (fun _ => rfl) (fun b v H15 hbm e15 hv => ?_) (fun b v H15 _ _ hv _ => ep_var rfl hv (stt_G b).x)) fun vfl H15 e15 hvfl => ?_
    · have bl := (CL.mem_sets.mp hbm).1.len
      exact et_test (ev_eqN ((lcG b (fun j => IsV (nV j)) (fun j => !s.contains j) (ep_var rfl hv (stt_G b).x) (fun _ => stt_V _) (by omega) (fun _ => rfl) (fun j H16 _ e16 => et_test (ev_niG (ev_var rfl) (ep_var rfl ((stt_G s).x _ _ _ (e15.trans e16) hvsm) (stt_G s).x))) (fun j H16 _ _ _ => ep_ev (ev_var rfl))).imp fun v H16 _ r => isN_map r) isN_nil)
    · refine s_when (b := false) (et_is (et_test (ev_op (ev_eqGs (use_placeable (use_picked (ep_var rfl (stx_J C n js _ _ _ e15 hvm14) (stx_J C n js)) (ep_var rfl ((stt_G s).x _ _ _ e15 hvsm) (stt_G s).x) hn hj hw gs) hn (by unfold CL.pickJ; rw [List.length_map]; have := gs.len; omega)) (use_placeable (ep_var rfl (stx_J C n js _ _ _ e15 hvm14) (stx_J C n js)) hn hj)) (ev_neGs (ep_var rfl hvfl (stx_Gs _)) isGs_nil) (rv_ne rfl))) (by rw [CL.enough_dec gs]; simp)) (fun z => by cases z) fun _ H16 e16 => ?_
      exact ⟨_, _, _, _, rfl, (X14.ex e15).ex e16, (hb14.ex e15).ex e16⟩
  · rintro σ' H10 ⟨x11, x12, x13, x14, rfl, x10, hb10⟩
    have hvm10 := stb_J C n js p l _ _ _ hb9 x10 hvm9
    have hvjs10 := stb_Gs js p l _ _ _ hb9 x10 hvjs9
    exact s_ret (v := .bl true) (ev_is (ev_eqTG (ep_jobs T (ep_var rfl hvm10 (stx_J C n js))) (ep_tupL (ep_var rfl hvjs10 (stx_Gs js)) (fun P hP => (all_G P hP).x))) (by simp)) fun H11 _ => k H11
end
end LW

/-! HD1: from what the top leaves to the law's promise. Printed by genhd.py. -/
namespace LW
open PySem L2 Evl CE CB CW
theorem law_mk {l : PySem.W.OpenLaw} {w : World} {K : PySem.W.Frag} {h : Heap} {mg : Str → Option Value} {fa C f1 f2 f3 f4 f5 f6 f7 f8 f9 f10 f11 f12 f13 f14 f15 f16 f17 f18 f19 f20 f21 f22 f23 f24 f25 f26 f27 f28 f29 f30 f31 f32 f33 f34 : Addr} (X : K.In h) (G : h.Ns mainGlobals mg) (hfa : mg "law" = some (.ref fa))
    {od1 od2 od3 od4 od5 od6 od7 od8 od9 od10 od11 od12 od13 od14 od15 od16 od17 od18 od19 od20 od21 od22 od23 od24 od25 od26 od27 od28 od29 od30 od31 od32 od33 od34 an1 an2 an3 an4 an5 an6 an7 an8 an9 an10 an11 an12 an13 an14 an15 an16 an17 an18 an19 an20 an21 an22 an23 an24 an25 an26 an27 an28 an29 an30 an31 an32 an33 an34 : Option Addr} {sl1 sl2 sl3 sl4 sl5 sl6 sl7 sl8 sl9 sl10 sl11 sl12 sl13 sl14 sl15 sl16 sl17 sl18 sl19 sl20 sl21 sl22 sl23 sl24 sl25 sl26 sl27 sl28 sl29 sl30 sl31 sl32 sl33 sl34 : Array (Option Value)} {oc1 oc2 oc3 oc4 oc5 oc6 oc7 oc8 oc9 oc10 oc11 oc12 oc13 oc14 oc15 oc16 oc17 oc18 oc19 oc20 oc21 oc22 oc23 oc24 oc25 oc26 oc27 oc28 oc29 oc30 oc31 oc32 oc33 oc34 kV1 kV2 kV3 kV4 kV5 kV6 kV7 kV8 kV9 kV10 kV11 kV12 kV13 kV14 kV15 kV16 kV17 kV18 kV19 kV20 kV21 kV22 kV23 kV24 kV25 kV26 kV27 kV28 kV29 kV30 kV31 kV32 kV33 kV34 dc1 dc2 dc3 dc4 dc5 dc6 dc7 dc8 dc9 dc10 dc11 dc12 dc13 dc14 dc15 dc16 dc17 dc18 dc19 dc20 dc21 dc22 dc23 dc24 dc25 dc26 dc27 dc28 dc29 dc30 dc31 dc32 dc33 dc34 pm1 pm2 pm3 pm4 pm5 pm6 pm7 pm8 pm9 pm10 pm11 pm12 pm13 pm14 pm15 pm16 pm17 pm18 pm19 pm20 pm21 pm22 pm23 pm24 pm25 pm26 pm27 pm28 pm29 pm30 pm31 pm32 pm33 pm34 cd1 cd2 cd3 cd4 cd5 cd6 cd7 cd8 cd9 cd10 cd11 cd12 cd13 cd14 cd15 cd16 cd17 cd18 cd19 cd20 cd21 cd22 cd23 cd24 cd25 cd26 cd27 cd28 cd29 cd30 cd31 cd32 cd33 cd34 ct1 ct2 ct3 ct4 ct5 ct6 ct7 ct8 ct9 ct10 ct11 ct12 ct13 ct14 ct15 ct16 ct17 ct18 ct19 ct20 ct21 ct22 ct23 ct24 ct25 ct26 ct27 ct28 ct29 ct30 ct31 ct32 ct33 ct34 : Value} {t1 t2 : Tok}
    (aC : PySem.W.nsIn K mainGlobals "Jobs" = some (some (.ref C)))
    (a1 : PySem.W.findIn K (.ref C) "__init__" = some (some (.ref f1)))
    (i1 : PySem.W.isFn K (.ref f1) = true)
    (l1 : K.lookup f1 = some ⟨oc1, od1, .func (PySem.W.fnOf "__init__" "Jobs.__init__" (defArgs sInit) (defBody sInit) (defScope sInit) .none kV1 dc1 pm1 an1 cd1 ct1), sl1⟩)
    (c1 : PySem.W.codeIn K cd1 "Jobs.__init__" = true)
    (k1 : PySem.W.keepIn K (.ref f1) = true)
    (a2 : PySem.W.findIn K (.ref C) "__eq__" = some (some (.ref f2)))
    (i2 : PySem.W.isFn K (.ref f2) = true)
    (l2 : K.lookup f2 = some ⟨oc2, od2, .func (PySem.W.fnOf "__eq__" "Jobs.__eq__" (defArgs sEq) (defBody sEq) (defScope sEq) .none kV2 dc2 pm2 an2 cd2 ct2), sl2⟩)
    (c2 : PySem.W.codeIn K cd2 "Jobs.__eq__" = true)
    (k2 : PySem.W.keepIn K (.ref f2) = true)
    (a3 : PySem.W.findIn K (.ref C) "__abs__" = some (some (.ref f3)))
    (i3 : PySem.W.isFn K (.ref f3) = true)
    (l3 : K.lookup f3 = some ⟨oc3, od3, .func (PySem.W.fnOf "__abs__" "Jobs.__abs__" (defArgs sAbs) (defBody sAbs) (defScope sAbs) .none kV3 dc3 pm3 an3 cd3 ct3), sl3⟩)
    (c3 : PySem.W.codeIn K cd3 "Jobs.__abs__" = true)
    (k3 : PySem.W.keepIn K (.ref f3) = true)
    (a4 : PySem.W.findIn K (.ref C) "open_to" = some (some (.ref f4)))
    (i4 : PySem.W.isFn K (.ref f4) = true)
    (l4 : K.lookup f4 = some ⟨oc4, od4, .func (PySem.W.fnOf "open_to" "Jobs.open_to" (defArgs sOpenTo) (defBody sOpenTo) (defScope sOpenTo) .none kV4 dc4 pm4 an4 cd4 ct4), sl4⟩)
    (c4 : PySem.W.codeIn K cd4 "Jobs.open_to" = true)
    (k4 : PySem.W.keepIn K (.ref f4) = true)
    (a5 : PySem.W.findIn K (.ref C) "picked" = some (some (.ref f5)))
    (i5 : PySem.W.isFn K (.ref f5) = true)
    (l5 : K.lookup f5 = some ⟨oc5, od5, .func (PySem.W.fnOf "picked" "Jobs.picked" (defArgs sPicked) (defBody sPicked) (defScope sPicked) .none kV5 dc5 pm5 an5 cd5 ct5), sl5⟩)
    (c5 : PySem.W.codeIn K cd5 "Jobs.picked" = true)
    (k5 : PySem.W.keepIn K (.ref f5) = true)
    (a6 : PySem.W.findIn K (.ref C) "turned" = some (some (.ref f6)))
    (i6 : PySem.W.isFn K (.ref f6) = true)
    (l6 : K.lookup f6 = some ⟨oc6, od6, .func (PySem.W.fnOf "turned" "Jobs.turned" (defArgs sTurned) (defBody sTurned) (defScope sTurned) .none kV6 dc6 pm6 an6 cd6 ct6), sl6⟩)
    (c6 : PySem.W.codeIn K cd6 "Jobs.turned" = true)
    (k6 : PySem.W.keepIn K (.ref f6) = true)
    (a7 : PySem.W.nsIn K mainGlobals "is_integer" = some (some (.ref f7)))
    (l7 : K.lookup f7 = some ⟨oc7, od7, .func (PySem.W.fnOf "is_integer" "is_integer" (defArgs sIsInteger) (defBody sIsInteger) (defScope sIsInteger) .none kV7 dc7 pm7 an7 cd7 ct7), sl7⟩)
    (c7 : PySem.W.codeIn K cd7 "is_integer" = true)
    (k7 : PySem.W.keepIn K (.ref f7) = true)
    (a8 : PySem.W.nsIn K mainGlobals "is_between" = some (some (.ref f8)))
    (l8 : K.lookup f8 = some ⟨oc8, od8, .func (PySem.W.fnOf "is_between" "is_between" (defArgs sIsBetween) (defBody sIsBetween) (defScope sIsBetween) .none kV8 dc8 pm8 an8 cd8 ct8), sl8⟩)
    (c8 : PySem.W.codeIn K cd8 "is_between" = true)
    (k8 : PySem.W.keepIn K (.ref f8) = true)
    (a9 : PySem.W.nsIn K mainGlobals "is_listed" = some (some (.ref f9)))
    (l9 : K.lookup f9 = some ⟨oc9, od9, .func (PySem.W.fnOf "is_listed" "is_listed" (defArgs sIsListed) (defBody sIsListed) (defScope sIsListed) .none kV9 dc9 pm9 an9 cd9 ct9), sl9⟩)
    (c9 : PySem.W.codeIn K cd9 "is_listed" = true)
    (k9 : PySem.W.keepIn K (.ref f9) = true)
    (a10 : PySem.W.nsIn K mainGlobals "is_group" = some (some (.ref f10)))
    (l10 : K.lookup f10 = some ⟨oc10, od10, .func (PySem.W.fnOf "is_group" "is_group" (defArgs sIsGroup) (defBody sIsGroup) (defScope sIsGroup) .none kV10 dc10 pm10 an10 cd10 ct10), sl10⟩)
    (c10 : PySem.W.codeIn K cd10 "is_group" = true)
    (k10 : PySem.W.keepIn K (.ref f10) = true)
    (a11 : PySem.W.nsIn K mainGlobals "groups" = some (some (.ref f11)))
    (l11 : K.lookup f11 = some ⟨oc11, od11, .func (PySem.W.fnOf "groups" "groups" (defArgs sGroups) (defBody sGroups) (defScope sGroups) .none kV11 dc11 pm11 an11 cd11 ct11), sl11⟩)
    (c11 : PySem.W.codeIn K cd11 "groups" = true)
    (k11 : PySem.W.keepIn K (.ref f11) = true)
    (a12 : PySem.W.nsIn K mainGlobals "parts" = some (some (.ref f12)))
    (l12 : K.lookup f12 = some ⟨oc12, od12, .func (PySem.W.fnOf "parts" "parts" (defArgs sParts) (defBody sParts) (defScope sParts) .none kV12 dc12 pm12 an12 cd12 ct12), sl12⟩)
    (c12 : PySem.W.codeIn K cd12 "parts" = true)
    (k12 : PySem.W.keepIn K (.ref f12) = true)
    (a13 : PySem.W.nsIn K mainGlobals "open_indexes" = some (some (.ref f13)))
    (l13 : K.lookup f13 = some ⟨oc13, od13, .func (PySem.W.fnOf "open_indexes" "open_indexes" (defArgs sOpen) (defBody sOpen) (defScope sOpen) .none kV13 dc13 pm13 an13 cd13 ct13), sl13⟩)
    (c13 : PySem.W.codeIn K cd13 "open_indexes" = true)
    (k13 : PySem.W.keepIn K (.ref f13) = true)
    (a14 : PySem.W.nsIn K mainGlobals "shortage" = some (some (.ref f14)))
    (l14 : K.lookup f14 = some ⟨oc14, od14, .func (PySem.W.fnOf "shortage" "shortage" (defArgs sShortage) (defBody sShortage) (defScope sShortage) .none kV14 dc14 pm14 an14 cd14 ct14), sl14⟩)
    (c14 : PySem.W.codeIn K cd14 "shortage" = true)
    (k14 : PySem.W.keepIn K (.ref f14) = true)
    (a15 : PySem.W.nsIn K mainGlobals "strength_of" = some (some (.ref f15)))
    (l15 : K.lookup f15 = some ⟨oc15, od15, .func (PySem.W.fnOf "strength_of" "strength_of" (defArgs sStrengthOf) (defBody sStrengthOf) (defScope sStrengthOf) .none kV15 dc15 pm15 an15 cd15 ct15), sl15⟩)
    (c15 : PySem.W.codeIn K cd15 "strength_of" = true)
    (k15 : PySem.W.keepIn K (.ref f15) = true)
    (a16 : PySem.W.nsIn K mainGlobals "short_part" = some (some (.ref f16)))
    (l16 : K.lookup f16 = some ⟨oc16, od16, .func (PySem.W.fnOf "short_part" "short_part" (defArgs sShortPart) (defBody sShortPart) (defScope sShortPart) .none kV16 dc16 pm16 an16 cd16 ct16), sl16⟩)
    (c16 : PySem.W.codeIn K cd16 "short_part" = true)
    (k16 : PySem.W.keepIn K (.ref f16) = true)
    (a17 : PySem.W.nsIn K mainGlobals "strength" = some (some (.ref f17)))
    (l17 : K.lookup f17 = some ⟨oc17, od17, .func (PySem.W.fnOf "strength" "strength" (defArgs sStrength) (defBody sStrength) (defScope sStrength) .none kV17 dc17 pm17 an17 cd17 ct17), sl17⟩)
    (c17 : PySem.W.codeIn K cd17 "strength" = true)
    (k17 : PySem.W.keepIn K (.ref f17) = true)
    (a18 : PySem.W.nsIn K mainGlobals "deals" = some (some (.ref f18)))
    (l18 : K.lookup f18 = some ⟨oc18, od18, .func (PySem.W.fnOf "deals" "deals" (defArgs sDeals) (defBody sDeals) (defScope sDeals) .none kV18 dc18 pm18 an18 cd18 ct18), sl18⟩)
    (c18 : PySem.W.codeIn K cd18 "deals" = true)
    (k18 : PySem.W.keepIn K (.ref f18) = true)
    (a19 : PySem.W.nsIn K mainGlobals "deal" = some (some (.ref f19)))
    (l19 : K.lookup f19 = some ⟨oc19, od19, .func (PySem.W.fnOf "deal" "deal" (defArgs sDeal) (defBody sDeal) (defScope sDeal) .none kV19 dc19 pm19 an19 cd19 ct19), sl19⟩)
    (c19 : PySem.W.codeIn K cd19 "deal" = true)
    (k19 : PySem.W.keepIn K (.ref f19) = true)
    (a20 : PySem.W.nsIn K mainGlobals "placeable" = some (some (.ref f20)))
    (l20 : K.lookup f20 = some ⟨oc20, od20, .func (PySem.W.fnOf "placeable" "placeable" (defArgs sPlaceable) (defBody sPlaceable) (defScope sPlaceable) .none kV20 dc20 pm20 an20 cd20 ct20), sl20⟩)
    (c20 : PySem.W.codeIn K cd20 "placeable" = true)
    (k20 : PySem.W.keepIn K (.ref f20) = true)
    (a21 : PySem.W.nsIn K mainGlobals "both" = some (some (.ref f21)))
    (l21 : K.lookup f21 = some ⟨oc21, od21, .func (PySem.W.fnOf "both" "both" (defArgs sBoth) (defBody sBoth) (defScope sBoth) .none kV21 dc21 pm21 an21 cd21 ct21), sl21⟩)
    (c21 : PySem.W.codeIn K cd21 "both" = true)
    (k21 : PySem.W.keepIn K (.ref f21) = true)
    (a22 : PySem.W.nsIn K mainGlobals "_law_bag" = some (some (.ref f22)))
    (l22 : K.lookup f22 = some ⟨oc22, od22, .func (PySem.W.fnOf "_law_bag" "_law_bag" (defArgs sBag) (defBody sBag) (defScope sBag) .none kV22 dc22 pm22 an22 cd22 ct22), sl22⟩)
    (c22 : PySem.W.codeIn K cd22 "_law_bag" = true)
    (k22 : PySem.W.keepIn K (.ref f22) = true)
    (a23 : PySem.W.nsIn K mainGlobals "_law_take" = some (some (.ref f23)))
    (l23 : K.lookup f23 = some ⟨oc23, od23, .func (PySem.W.fnOf "_law_take" "_law_take" (defArgs sTake) (defBody sTake) (defScope sTake) .none kV23 dc23 pm23 an23 cd23 ct23), sl23⟩)
    (c23 : PySem.W.codeIn K cd23 "_law_take" = true)
    (k23 : PySem.W.keepIn K (.ref f23) = true)
    (a24 : PySem.W.nsIn K mainGlobals "_law_one" = some (some (.ref f24)))
    (l24 : K.lookup f24 = some ⟨oc24, od24, .func (PySem.W.fnOf "_law_one" "_law_one" (defArgs sOne) (defBody sOne) (defScope sOne) .none kV24 dc24 pm24 an24 cd24 ct24), sl24⟩)
    (c24 : PySem.W.codeIn K cd24 "_law_one" = true)
    (k24 : PySem.W.keepIn K (.ref f24) = true)
    (a25 : PySem.W.nsIn K mainGlobals "_law_some" = some (some (.ref f25)))
    (l25 : K.lookup f25 = some ⟨oc25, od25, .func (PySem.W.fnOf "_law_some" "_law_some" (defArgs sSome) (defBody sSome) (defScope sSome) .none kV25 dc25 pm25 an25 cd25 ct25), sl25⟩)
    (c25 : PySem.W.codeIn K cd25 "_law_some" = true)
    (k25 : PySem.W.keepIn K (.ref f25) = true)
    (a26 : PySem.W.nsIn K mainGlobals "_law_job" = some (some (.ref f26)))
    (l26 : K.lookup f26 = some ⟨oc26, od26, .func (PySem.W.fnOf "_law_job" "_law_job" (defArgs sJob) (defBody sJob) (defScope sJob) .none kV26 dc26 pm26 an26 cd26 ct26), sl26⟩)
    (c26 : PySem.W.codeIn K cd26 "_law_job" = true)
    (k26 : PySem.W.keepIn K (.ref f26) = true)
    (a27 : PySem.W.nsIn K mainGlobals "_law_jobs" = some (some (.ref f27)))
    (l27 : K.lookup f27 = some ⟨oc27, od27, .func (PySem.W.fnOf "_law_jobs" "_law_jobs" (defArgs sLJobs) (defBody sLJobs) (defScope sLJobs) .none kV27 dc27 pm27 an27 cd27 ct27), sl27⟩)
    (c27 : PySem.W.codeIn K cd27 "_law_jobs" = true)
    (k27 : PySem.W.keepIn K (.ref f27) = true)
    (a28 : PySem.W.nsIn K mainGlobals "_law_groups" = some (some (.ref f28)))
    (l28 : K.lookup f28 = some ⟨oc28, od28, .func (PySem.W.fnOf "_law_groups" "_law_groups" (defArgs sLGroups) (defBody sLGroups) (defScope sLGroups) .none kV28 dc28 pm28 an28 cd28 ct28), sl28⟩)
    (c28 : PySem.W.codeIn K cd28 "_law_groups" = true)
    (k28 : PySem.W.keepIn K (.ref f28) = true)
    (a29 : PySem.W.nsIn K mainGlobals "_law_can" = some (some (.ref f29)))
    (l29 : K.lookup f29 = some ⟨oc29, od29, .func (PySem.W.fnOf "_law_can" "_law_can" (defArgs sCan) (defBody sCan) (defScope sCan) .none kV29 dc29 pm29 an29 cd29 ct29), sl29⟩)
    (c29 : PySem.W.codeIn K cd29 "_law_can" = true)
    (k29 : PySem.W.keepIn K (.ref f29) = true)
    (a30 : PySem.W.nsIn K mainGlobals "_law_crews" = some (some (.ref f30)))
    (l30 : K.lookup f30 = some ⟨oc30, od30, .func (PySem.W.fnOf "_law_crews" "_law_crews" (defArgs sCrews) (defBody sCrews) (defScope sCrews) .none kV30 dc30 pm30 an30 cd30 ct30), sl30⟩)
    (c30 : PySem.W.codeIn K cd30 "_law_crews" = true)
    (k30 : PySem.W.keepIn K (.ref f30) = true)
    (a31 : PySem.W.nsIn K mainGlobals "_law_turned" = some (some (.ref f31)))
    (l31 : K.lookup f31 = some ⟨oc31, od31, .func (PySem.W.fnOf "_law_turned" "_law_turned" (defArgs sLTurned) (defBody sLTurned) (defScope sLTurned) .none kV31 dc31 pm31 an31 cd31 ct31), sl31⟩)
    (c31 : PySem.W.codeIn K cd31 "_law_turned" = true)
    (k31 : PySem.W.keepIn K (.ref f31) = true)
    (a32 : PySem.W.nsIn K mainGlobals "_law_right_table" = some (some (.ref f32)))
    (l32 : K.lookup f32 = some ⟨oc32, od32, .func (PySem.W.fnOf "_law_right_table" "_law_right_table" (defArgs sRight) (defBody sRight) (defScope sRight) .none kV32 dc32 pm32 an32 cd32 ct32), sl32⟩)
    (c32 : PySem.W.codeIn K cd32 "_law_right_table" = true)
    (k32 : PySem.W.keepIn K (.ref f32) = true)
    (a33 : PySem.W.nsIn K mainGlobals "_law_fill" = some (some (.ref f33)))
    (l33 : K.lookup f33 = some ⟨oc33, od33, .func (PySem.W.fnOf "_law_fill" "_law_fill" (defArgs sFill) (defBody sFill) (defScope sFill) .none kV33 dc33 pm33 an33 cd33 ct33), sl33⟩)
    (c33 : PySem.W.codeIn K cd33 "_law_fill" = true)
    (k33 : PySem.W.keepIn K (.ref f33) = true)
    (a34 : PySem.W.nsIn K mainGlobals "law" = some (some (.ref f34)))
    (l34 : K.lookup f34 = some ⟨oc34, od34, .func (PySem.W.fnOf "law" "law" (defArgs sLaw) (defBody sLaw) (defScope sLaw) .none kV34 dc34 pm34 an34 cd34 ct34), sl34⟩)
    (c34 : PySem.W.codeIn K cd34 "law" = true)
    (k34 : PySem.W.keepIn K (.ref f34) = true)
    (pg : PySem.W.plainGet K C Str.empty = true)
    (hd : PySem.W.hasDictIn K C = true)
    (po : PySem.W.plainOver K C = true)
    (sa : PySem.W.findIn K (.ref C) "__setattr__" = some (some (.builtin "object.__setattr__")))
    (mk : PySem.W.makesIn K C = true)
    (kc : PySem.W.keepIn K (.ref C) = true)
    (nS : PySem.W.findIn K (.ref C) "size" = some none)
    (nJ : PySem.W.findIn K (.ref C) "jobs" = some none)
    (ha : PySem.W.findIn K (.ref C) "__class__" = some (some (.builtin "object.__class__")))
    (hn : PySem.W.specialIn K (.builtin "object.__class__") "__get__" = some (some (.builtin "getset_descriptor.__get__")))
    (htk : PySem.W.takesIn K (.builtin "object.__class__") = some true)
    (hm : PySem.W.mroIn K C (.type "object") = some true)
    (ne : PySem.W.findIn K (.ref C) "__ne__" = some (some (.builtin "object.__ne__")))
    (ms : PySem.W.nsIn K mainGlobals "MOST_SIZE" = some (some (.int 7 t1)))
    (mj : PySem.W.nsIn K mainGlobals "MOST_JOBS" = some (some (.int 7 t2)))
    (z_len : PySem.W.nsIn K mainGlobals "len" = some none)
    (z_isinstance : PySem.W.nsIn K mainGlobals "isinstance" = some none)
    (z_int : PySem.W.nsIn K mainGlobals "int" = some none)
    (z_bool : PySem.W.nsIn K mainGlobals "bool" = some none)
    (z_list : PySem.W.nsIn K mainGlobals "list" = some none)
    (z_tuple : PySem.W.nsIn K mainGlobals "tuple" = some none)
    (z_all : PySem.W.nsIn K mainGlobals "all" = some none)
    (z_any : PySem.W.nsIn K mainGlobals "any" = some none)
    (z_range : PySem.W.nsIn K mainGlobals "range" = some none)
    (z_enumerate : PySem.W.nsIn K mainGlobals "enumerate" = some none)
    (z_max : PySem.W.nsIn K mainGlobals "max" = some none)
    (z_dict : PySem.W.nsIn K mainGlobals "dict" = some none)
    (z_zip : PySem.W.nsIn K mainGlobals "zip" = some none)
    (z_sorted : PySem.W.nsIn K mainGlobals "sorted" = some none)
    (z_abs : PySem.W.nsIn K mainGlobals "abs" = some none) :
    ∃ fd : FuncData, (∀ (s : Shared) (v : Value), BindsTo s fd ⟨[v], []⟩ [("_law_script", v)]) ∧ ∀ base : Heap, K.In base → base.Ns mainGlobals mg → FnOk l.prog w K mg base CX0 24 fa fd ["_law_script"] (spLaw K) := by
  have e := hfa.symm.trans (PySem.W.mg_of X G a34)
  cases e
  have Bi : Bf mg := ⟨PySem.W.mg_none_of X G z_len, PySem.W.mg_none_of X G z_isinstance, PySem.W.mg_none_of X G z_int, PySem.W.mg_none_of X G z_bool, PySem.W.mg_none_of X G z_list, PySem.W.mg_none_of X G z_tuple, PySem.W.mg_none_of X G z_all, PySem.W.mg_none_of X G z_any, PySem.W.mg_none_of X G z_range, PySem.W.mg_none_of X G z_enumerate, PySem.W.mg_none_of X G z_max, PySem.W.mg_none_of X G z_dict, PySem.W.mg_none_of X G z_zip, PySem.W.mg_none_of X G z_sorted, PySem.W.mg_none_of X G z_abs⟩
  have cl : Cls K C := ⟨pg, hd, po, sa⟩
  have me : PySem.W.kitOne K (.ref C) (.ref C) = some true := if_pos (beq_self_eq_true _)
  have T : TJ K mg C := ⟨cl, nS, nJ, PySem.W.mg_of X G aC, ⟨cl, ha, hn, htk, hm, me⟩⟩
  have F1 := fun_mk (st := sInit) l1 c1 k1
  have F2 := fun_mk (st := sEq) l2 c2 k2
  have F3 := fun_mk (st := sAbs) l3 c3 k3
  have F4 := fun_mk (st := sOpenTo) l4 c4 k4
  have F5 := fun_mk (st := sPicked) l5 c5 k5
  have F6 := fun_mk (st := sTurned) l6 c6 k6
  have F7 := fun_mk (st := sIsInteger) l7 c7 k7
  have F8 := fun_mk (st := sIsBetween) l8 c8 k8
  have F9 := fun_mk (st := sIsListed) l9 c9 k9
  have F10 := fun_mk (st := sIsGroup) l10 c10 k10
  have F11 := fun_mk (st := sGroups) l11 c11 k11
  have F12 := fun_mk (st := sParts) l12 c12 k12
  have F13 := fun_mk (st := sOpen) l13 c13 k13
  have F14 := fun_mk (st := sShortage) l14 c14 k14
  have F15 := fun_mk (st := sStrengthOf) l15 c15 k15
  have F16 := fun_mk (st := sShortPart) l16 c16 k16
  have F17 := fun_mk (st := sStrength) l17 c17 k17
  have F18 := fun_mk (st := sDeals) l18 c18 k18
  have F19 := fun_mk (st := sDeal) l19 c19 k19
  have F20 := fun_mk (st := sPlaceable) l20 c20 k20
  have F21 := fun_mk (st := sBoth) l21 c21 k21
  have F22 := fun_mk (st := sBag) l22 c22 k22
  have F23 := fun_mk (st := sTake) l23 c23 k23
  have F24 := fun_mk (st := sOne) l24 c24 k24
  have F25 := fun_mk (st := sSome) l25 c25 k25
  have F26 := fun_mk (st := sJob) l26 c26 k26
  have F27 := fun_mk (st := sLJobs) l27 c27 k27
  have F28 := fun_mk (st := sLGroups) l28 c28 k28
  have F29 := fun_mk (st := sCan) l29 c29 k29
  have F30 := fun_mk (st := sCrews) l30 c30 k30
  have F31 := fun_mk (st := sLTurned) l31 c31 k31
  have F32 := fun_mk (st := sRight) l32 c32 k32
  have F33 := fun_mk (st := sFill) l33 c33 k33
  have F34 := fun_mk (st := sLaw) l34 c34 k34
  have b1 := F1.binds (ps := ["self", "size", "jobs"]) fun _ _ _ _ _ _ us hl => match us, hl with | [_, _, _], _ => rfl
  have b2 := F2.binds (ps := ["self", "other"]) fun _ _ _ _ _ _ us hl => match us, hl with | [_, _], _ => rfl
  have b3 := F3.binds (ps := ["self"]) fun _ _ _ _ _ _ us hl => match us, hl with | [_], _ => rfl
  have b4 := F4.binds (ps := ["self", "group"]) fun _ _ _ _ _ _ us hl => match us, hl with | [_, _], _ => rfl
  have b5 := F5.binds (ps := ["self", "indexes"]) fun _ _ _ _ _ _ us hl => match us, hl with | [_, _], _ => rfl
  have b6 := F6.binds (ps := ["self"]) fun _ _ _ _ _ _ us hl => match us, hl with | [_], _ => rfl
  have b18 := F18.binds (ps := ["jobs", "group"]) fun _ _ _ _ _ _ us hl => match us, hl with | [_, _], _ => rfl
  refine ⟨PySem.W.fnOf "law" "law" (defArgs sLaw) (defBody sLaw) (defScope sLaw) .none kV34 dc34 pm34 an34 cd34 ct34, fun s v => .of_eq rfl, fun base _ _ => ?_⟩
  have Cii : Cal l.prog w K mg base 1 "is_integer" ["thing"] spIsInteger := cal_mk F7 (ok_isInteger F7 Bi) (PySem.W.mg_of X G a7) fun _ _ _ _ _ _ us hl => match us, hl with | [_], _ => rfl
  have Cib : Cal l.prog w K mg base 2 "is_between" ["thing", "least", "most"] spIsBetween := cal_mk F8 (ok_isBetween F8 Cii) (PySem.W.mg_of X G a8) fun _ _ _ _ _ _ us hl => match us, hl with | [_, _, _], _ => rfl
  have Cil : Cal l.prog w K mg base 1 "is_listed" ["thing", "most"] spIsListed := cal_mk F9 (ok_isListed F9 Bi) (PySem.W.mg_of X G a9) fun _ _ _ _ _ _ us hl => match us, hl with | [_, _], _ => rfl
  have Cig : Cal l.prog w K mg base 3 "is_group" ["size", "thing"] spIsGroup := cal_mk F10 (ok_isGroup F10 Bi Cib) (PySem.W.mg_of X G a10) fun _ _ _ _ _ _ us hl => match us, hl with | [_, _], _ => rfl
  have Cg : Cal l.prog w K mg base 1 "groups" ["size"] spGroups := cal_mk F11 (ok_groups F11 Bi) (PySem.W.mg_of X G a11) fun _ _ _ _ _ _ us hl => match us, hl with | [_], _ => rfl
  have Cp : Cal l.prog w K mg base 2 "parts" ["group"] spParts := cal_mk F12 (ok_parts F12 Bi Cg) (PySem.W.mg_of X G a12) fun _ _ _ _ _ _ us hl => match us, hl with | [_], _ => rfl
  have Co : Cal l.prog w K mg base 1 "open_indexes" ["jobs", "group"] spOpen := cal_mk F13 (ok_open F13 Bi) (PySem.W.mg_of X G a13) fun _ _ _ _ _ _ us hl => match us, hl with | [_, _], _ => rfl
  have Cs : Cal l.prog w K mg base 2 "shortage" ["jobs", "group"] spShortage := cal_mk F14 (ok_shortage F14 Bi Co) (PySem.W.mg_of X G a14) fun _ _ _ _ _ _ us hl => match us, hl with | [_, _], _ => rfl
  have Cso : Cal l.prog w K mg base 3 "strength_of" ["jobs", "group"] spStrengthOf := cal_mk F15 (ok_strengthOf F15 Bi Cp Cs) (PySem.W.mg_of X G a15) fun _ _ _ _ _ _ us hl => match us, hl with | [_, _], _ => rfl
  have Csp : Cal l.prog w K mg base 3 "short_part" ["jobs", "group"] (spShortPart C) := cal_mk F16 (ok_shortPart F16 Bi T Cp Cs) (PySem.W.mg_of X G a16) fun _ _ _ _ _ _ us hl => match us, hl with | [_, _], _ => rfl
  have Cst : Cal l.prog w K mg base 4 "strength" ["jobs", "group"] (spStrength C) := cal_mk F17 (ok_strength F17 Bi T Cs Csp) (PySem.W.mg_of X G a17) fun _ _ _ _ _ _ us hl => match us, hl with | [_, _], _ => rfl
  have Cpl : Cal l.prog w K mg base 2 "placeable" ["jobs"] (spPlaceable C) := cal_mk F20 (ok_placeable F20 Bi T Cg Co) (PySem.W.mg_of X G a20) fun _ _ _ _ _ _ us hl => match us, hl with | [_], _ => rfl
  have Mo : CalM l.prog w K mg base 2 C "open_to" ["self", "group"] (spOpenTo C) := ⟨_, _, ok_openTo F4 T Co, ⟨a4, i4, k4⟩, b4⟩
  have Cd : Cal l.prog w K mg base 21 "deal" ["jobs", "group"] (CG.spDeal C) := cal_mk F19 (CG.ok_deal F19 F18 (PySem.W.mg_of X G a18) b18 T Mo) (PySem.W.mg_of X G a19) fun _ _ _ _ _ _ us hl => match us, hl with | [_, _], _ => rfl
  have CI : CalI l.prog w K mg base 4 C := ⟨_, _, ok_init F1 Bi T (PySem.W.mg_of X G ms) (PySem.W.mg_of X G mj) Cib Cil Cig, ⟨mk, a1, i1, kc⟩, b1⟩
  have Mp : CalM l.prog w K mg base 6 C "picked" ["self", "indexes"] (spPicked C) := ⟨_, _, ok_picked F5 T CI, ⟨a5, i5, k5⟩, b5⟩
  have Mt' : CalM l.prog w K mg base 6 C "turned" ["self"] (spTurned C) := ⟨_, _, ok_turned F6 Bi T CI Mo, ⟨a6, i6, k6⟩, b6⟩
  have Cb : Cal l.prog w K mg base 22 "both" ["jobs", "group", "wanted"] (spBoth C) := cal_mk F21 (ok_both F21 Bi T Csp Cd Mt') (PySem.W.mg_of X G a21) fun _ _ _ _ _ _ us hl => match us, hl with | [_, _, _], _ => rfl
  have CA : CalA l.prog w K mg base C := ⟨_, _, ok_abs F3 Bi T Cso, a3, i3, b3⟩
  have CN : CalN l.prog w K mg base C := ⟨_, _, ok_eq F2 Bi T, a2, i2, b2, ne, hm⟩
  have Lb : Cal l.prog w K mg base 1 "_law_bag" ["_law_script"] (spBag K) := cal_mk F22 (ok_bag F22 Bi) (PySem.W.mg_of X G a22) fun _ _ _ _ _ _ us hl => match us, hl with | [_], _ => rfl
  have Lt : Cal l.prog w K mg base 1 "_law_take" ["_law_bag_here", "_law_many"] spTake := cal_mk F23 (ok_take F23 Bi) (PySem.W.mg_of X G a23) fun _ _ _ _ _ _ us hl => match us, hl with | [_, _], _ => rfl
  have Lo : Cal l.prog w K mg base 2 "_law_one" ["_law_bag_here", "_law_things"] spOne := cal_mk F24 (ok_one F24 Bi Lt) (PySem.W.mg_of X G a24) fun _ _ _ _ _ _ us hl => match us, hl with | [_, _], _ => rfl
  have Ls : Cal l.prog w K mg base 3 "_law_some" ["_law_bag_here", "_law_things"] spSome := cal_mk F25 (ok_some F25 Bi Lt) (PySem.W.mg_of X G a25) fun _ _ _ _ _ _ us hl => match us, hl with | [_, _], _ => rfl
  have Lj : Cal l.prog w K mg base 4 "_law_job" ["_law_bag_here", "_law_size"] spJob := cal_mk F26 (ok_job F26 Bi Lt Ls) (PySem.W.mg_of X G a26) fun _ _ _ _ _ _ us hl => match us, hl with | [_, _], _ => rfl
  have Ljs : Cal l.prog w K mg base 5 "_law_jobs" ["_law_bag_here", "_law_size", "_law_most"] spJobs := cal_mk F27 (ok_ljobs F27 Bi Lt Lo Lj) (PySem.W.mg_of X G a27) fun _ _ _ _ _ _ us hl => match us, hl with | [_, _, _], _ => rfl
  have Lg : Cal l.prog w K mg base 1 "_law_groups" ["_law_size"] spLGroups := cal_mk F28 (ok_lgroups F28 Bi) (PySem.W.mg_of X G a28) fun _ _ _ _ _ _ us hl => match us, hl with | [_], _ => rfl
  have Lc : Cal l.prog w K mg base 2 "_law_can" ["_law_size", "_law_jobs_here"] spCan := cal_mk F29 (ok_can F29 Bi Lg) (PySem.W.mg_of X G a29) fun _ _ _ _ _ _ us hl => match us, hl with | [_, _], _ => rfl
  have Lcr : Cal l.prog w K mg base 2 "_law_crews" ["_law_size", "_law_can_here"] spCrews := cal_mk F30 (ok_crews F30 Bi Lg) (PySem.W.mg_of X G a30) fun _ _ _ _ _ _ us hl => match us, hl with | [_, _], _ => rfl
  have Ltu : Cal l.prog w K mg base 1 "_law_turned" ["_law_size", "_law_jobs_here"] spLTurned := cal_mk F31 (ok_lturned F31 Bi) (PySem.W.mg_of X G a31) fun _ _ _ _ _ _ us hl => match us, hl with | [_, _], _ => rfl
  have Lr : Cal l.prog w K mg base 6 "_law_right_table" ["_law_made", "_law_size", "_law_can_here"] (spRight C) := cal_mk F32 (ok_right F32 Bi Lg Cpl Cst CA) (PySem.W.mg_of X G a32) fun _ _ _ _ _ _ us hl => match us, hl with | [_, _, _], _ => rfl
  have Lf : Cal l.prog w K mg base 23 "_law_fill" ["_law_made", "_law_crew", "_law_picked"] (spFill C) := cal_mk F33 (ok_fill F33 Bi Cb) (PySem.W.mg_of X G a33) fun _ _ _ _ _ _ us hl => match us, hl with | [_, _, _], _ => rfl
  exact ok_law F34 ⟨T, Bi, CI, Mp, Mt', CN, Cpl, Lb, Lo, Ls, Ljs, Lc, Lcr, Ltu, Lr, Lf⟩
theorem law_walk {l : PySem.W.OpenLaw} {q : Program} {loose : List Str} {XP : (Str → Option Value) → Heap → Prop} {YP : World → Heap → Prop} {d : DefRec} {K : Params → PySem.W.Frag} (hn : l.most = some 63) (hdf : d.params.defaults = [])
    (hY : ∀ (w : World) (h : Heap), YP w h → (K w.params).In h)
    (F : ∀ (w : World) (mg : Str → Option Value) (fa : Addr) (h : Heap), (K w.params).In h → h.Ns mainGlobals mg → mg d.name = some (.ref fa) →
      ∃ fd : FuncData, (∀ (s : Shared) (u : Value), BindsTo s fd ⟨[u], []⟩ [("_law_script", u)]) ∧ ∀ base : Heap, (K w.params).In base → base.Ns mainGlobals mg → FnOk l.prog w (K w.params) mg base CX0 24 fa fd ["_law_script"] (spLaw (K w.params))) :
    PySem.W.WalkO q loose XP YP l.row.toRowW d [] (fun f vs => PySem.call f vs) :=
  L2.walk_of (n := 63) (k := 24) (x := "_law_script") (CX := fun _ => CX0) (sp := fun w => spLaw (K w.params)) hn (by decide) hdf ⟨rfl, by decide, by decide⟩ hY F (fun _ _ a ns hl _ hS => ⟨a, ns, rfl, hS, Nat.le_trans hl (by decide), fun _ => rfl⟩) fun _ _ _ _ _ z => z
end LW

open PySem PySem.W PyProof.Rows in
set_option maxHeartbeats 0 in
theorem PySem.Challenge.cw_crewlists_k29_whole_people_and_jobs_turn_holds : PySem.Challenge.rw_crewlists_k29_whole_people_and_jobs_turn.Holds := by
  w_on; o_law; k_head; (case hw => w_witness2)
  k_fill
  refine LW.law_walk (l := PySem.Challenge.rw_crewlists_k29_whole_people_and_jobs_turn) rfl rfl (fun w h Y => PySem.W.kIn_of Y) ?F
  case F =>
    intro w mg fa h KX G hmg
    refine' LW.law_mk (l := PySem.Challenge.rw_crewlists_k29_whole_people_and_jobs_turn) KX G hmg ?aC ?a1 ?i1 ?l1 ?c1 ?k1 ?a2 ?i2 ?l2 ?c2 ?k2 ?a3 ?i3 ?l3 ?c3 ?k3 ?a4 ?i4 ?l4 ?c4 ?k4 ?a5 ?i5 ?l5 ?c5 ?k5 ?a6 ?i6 ?l6 ?c6 ?k6 ?a7 ?l7 ?c7 ?k7 ?a8 ?l8 ?c8 ?k8 ?a9 ?l9 ?c9 ?k9 ?a10 ?l10 ?c10 ?k10 ?a11 ?l11 ?c11 ?k11 ?a12 ?l12 ?c12 ?k12 ?a13 ?l13 ?c13 ?k13 ?a14 ?l14 ?c14 ?k14 ?a15 ?l15 ?c15 ?k15 ?a16 ?l16 ?c16 ?k16 ?a17 ?l17 ?c17 ?k17 ?a18 ?l18 ?c18 ?k18 ?a19 ?l19 ?c19 ?k19 ?a20 ?l20 ?c20 ?k20 ?a21 ?l21 ?c21 ?k21 ?a22 ?l22 ?c22 ?k22 ?a23 ?l23 ?c23 ?k23 ?a24 ?l24 ?c24 ?k24 ?a25 ?l25 ?c25 ?k25 ?a26 ?l26 ?c26 ?k26 ?a27 ?l27 ?c27 ?k27 ?a28 ?l28 ?c28 ?k28 ?a29 ?l29 ?c29 ?k29 ?a30 ?l30 ?c30 ?k30 ?a31 ?l31 ?c31 ?k31 ?a32 ?l32 ?c32 ?k32 ?a33 ?l33 ?c33 ?k33 ?a34 ?l34 ?c34 ?k34 ?pg ?hd ?po ?sa ?mk ?kc ?nS ?nJ ?ha ?hn ?htk ?hm ?ne ?ms ?mj ?z_len ?z_isinstance ?z_int ?z_bool ?z_list ?z_tuple ?z_all ?z_any ?z_range ?z_enumerate ?z_max ?z_dict ?z_zip ?z_sorted ?z_abs
    (case aC => k_is)
    (case a1 => k_is)
    (case i1 => k_is)
    (case l1 => k_is)
    (case c1 => k_is)
    (case k1 => k_is)
    (case a2 => k_is)
    (case i2 => k_is)
    (case l2 => k_is)
    (case c2 => k_is)
    (case k2 => k_is)
    (case a3 => k_is)
    (case i3 => k_is)
    (case l3 => k_is)
    (case c3 => k_is)
    (case k3 => k_is)
    (case a4 => k_is)
    (case i4 => k_is)
    (case l4 => k_is)
    (case c4 => k_is)
    (case k4 => k_is)
    (case a5 => k_is)
    (case i5 => k_is)
    (case l5 => k_is)
    (case c5 => k_is)
    (case k5 => k_is)
    (case a6 => k_is)
    (case i6 => k_is)
    (case l6 => k_is)
    (case c6 => k_is)
    (case k6 => k_is)
    (case a7 => k_is)
    (case l7 => k_is)
    (case c7 => k_is)
    (case k7 => k_is)
    (case a8 => k_is)
    (case l8 => k_is)
    (case c8 => k_is)
    (case k8 => k_is)
    (case a9 => k_is)
    (case l9 => k_is)
    (case c9 => k_is)
    (case k9 => k_is)
    (case a10 => k_is)
    (case l10 => k_is)
    (case c10 => k_is)
    (case k10 => k_is)
    (case a11 => k_is)
    (case l11 => k_is)
    (case c11 => k_is)
    (case k11 => k_is)
    (case a12 => k_is)
    (case l12 => k_is)
    (case c12 => k_is)
    (case k12 => k_is)
    (case a13 => k_is)
    (case l13 => k_is)
    (case c13 => k_is)
    (case k13 => k_is)
    (case a14 => k_is)
    (case l14 => k_is)
    (case c14 => k_is)
    (case k14 => k_is)
    (case a15 => k_is)
    (case l15 => k_is)
    (case c15 => k_is)
    (case k15 => k_is)
    (case a16 => k_is)
    (case l16 => k_is)
    (case c16 => k_is)
    (case k16 => k_is)
    (case a17 => k_is)
    (case l17 => k_is)
    (case c17 => k_is)
    (case k17 => k_is)
    (case a18 => k_is)
    (case l18 => k_is)
    (case c18 => k_is)
    (case k18 => k_is)
    (case a19 => k_is)
    (case l19 => k_is)
    (case c19 => k_is)
    (case k19 => k_is)
    (case a20 => k_is)
    (case l20 => k_is)
    (case c20 => k_is)
    (case k20 => k_is)
    (case a21 => k_is)
    (case l21 => k_is)
    (case c21 => k_is)
    (case k21 => k_is)
    (case a22 => k_is)
    (case l22 => k_is)
    (case c22 => k_is)
    (case k22 => k_is)
    (case a23 => k_is)
    (case l23 => k_is)
    (case c23 => k_is)
    (case k23 => k_is)
    (case a24 => k_is)
    (case l24 => k_is)
    (case c24 => k_is)
    (case k24 => k_is)
    (case a25 => k_is)
    (case l25 => k_is)
    (case c25 => k_is)
    (case k25 => k_is)
    (case a26 => k_is)
    (case l26 => k_is)
    (case c26 => k_is)
    (case k26 => k_is)
    (case a27 => k_is)
    (case l27 => k_is)
    (case c27 => k_is)
    (case k27 => k_is)
    (case a28 => k_is)
    (case l28 => k_is)
    (case c28 => k_is)
    (case k28 => k_is)
    (case a29 => k_is)
    (case l29 => k_is)
    (case c29 => k_is)
    (case k29 => k_is)
    (case a30 => k_is)
    (case l30 => k_is)
    (case c30 => k_is)
    (case k30 => k_is)
    (case a31 => k_is)
    (case l31 => k_is)
    (case c31 => k_is)
    (case k31 => k_is)
    (case a32 => k_is)
    (case l32 => k_is)
    (case c32 => k_is)
    (case k32 => k_is)
    (case a33 => k_is)
    (case l33 => k_is)
    (case c33 => k_is)
    (case k33 => k_is)
    (case a34 => k_is)
    (case l34 => k_is)
    (case c34 => k_is)
    (case k34 => k_is)
    (case pg => k_is)
    (case hd => k_is)
    (case po => k_is)
    (case sa => k_is)
    (case mk => k_is)
    (case kc => k_is)
    (case nS => k_is)
    (case nJ => k_is)
    (case ha => k_is)
    (case hn => k_is)
    (case htk => k_is)
    (case hm => k_is)
    (case ne => k_is)
    (case ms => k_is)
    (case mj => k_is)
    (case z_len => k_is)
    (case z_isinstance => k_is)
    (case z_int => k_is)
    (case z_bool => k_is)
    (case z_list => k_is)
    (case z_tuple => k_is)
    (case z_all => k_is)
    (case z_any => k_is)
    (case z_range => k_is)
    (case z_enumerate => k_is)
    (case z_max => k_is)
    (case z_dict => k_is)
    (case z_zip => k_is)
    (case z_sorted => k_is)
    (case z_abs => k_is)

