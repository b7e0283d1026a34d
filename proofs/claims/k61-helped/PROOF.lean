import PyProof.Rows.All
import Wide.All
import OpenK.AllK
import Wide.FinOn
import HandS.ForMost
import HandS.ForExc
import HandS.ExcInit
import HandS.ExcIs
import HandS.ExcValue
import HandS.DictComp
import HandS.Zip
import HandS.TupAny
import HandS.TupMul
import HandS.IsInst
import HandS.Style
import HandS.Conv
import HandS.Defaults
import HandS.SortInts
import HandS.TupSets
import HandS.OwnEq
import HandS.Lambda
import HandS.EndTab
import HandS.Codes
import HandS.Star
import HandS.Wide
import HandS.WideBits
import HandS.Deep
import HandS.TupLe
import KE.KDflt
import KE.KExcSuper
import KE.KNestM
import PySem.Challenge.RW_keptlamps_k61_whole_helped_tables
import KE.GoesEnum
import KE.GoesMore
import HandS.Walk
import KE.OsArith
import HandS.ExcSuper
import KE.KIsAll
import KE.KTryMore
import PyProof.InstNe
import PyProof.ReprRoads
import HandS.FStrTup

/-! KLMath -/
set_option linter.all false
set_option maxRecDepth 20000
/-! Plain mathematics: rows, classes, inversions, swaps, cycles. No program in sight. -/
namespace KL

/-! ### weights -/
def wtF : Nat → Nat → Nat
  | 0, _ => 0
  | f + 1, r => r % 2 + wtF f (r / 2)
/-- how many lamps burn (rows below 2 ^ 9) -/
def wt (r : Nat) : Nat := wtF 9 r
theorem wtF_zero : ∀ f, wtF f 0 = 0
  | 0 => rfl
  | f + 1 => by show 0 % 2 + wtF f (0 / 2) = 0; simp [wtF_zero f]
theorem wtF_eq : ∀ (f g r : Nat), r < 2 ^ f → r < 2 ^ g → wtF f r = wtF g r
  | 0, g, r, h, _ => by
    have : r = 0 := by simpa using h
    subst this; rw [wtF_zero, wtF_zero]
  | f + 1, 0, r, _, h => by
    have : r = 0 := by simpa using h
    subst this; rw [wtF_zero, wtF_zero]
  | f + 1, g + 1, r, h1, h2 => by
    show r % 2 + wtF f (r / 2) = r % 2 + wtF g (r / 2)
    rw [wtF_eq f g (r / 2) (by rw [Nat.pow_succ] at h1; omega) (by rw [Nat.pow_succ] at h2; omega)]
theorem wt_add : ∀ n, n < 9 → ∀ r, r < 2 ^ n → wt (2 ^ n + r) = wt r + 1 := by
  have key : (List.range 9).all (fun n => (List.range (2 ^ n)).all fun r => wt (2 ^ n + r) == wt r + 1) = true := by decide +kernel
  intro n hn r hr
  have h1 := List.all_eq_true.mp key n (List.mem_range.mpr hn)
  have h2 := List.all_eq_true.mp h1 r (List.mem_range.mpr hr)
  exact eq_of_beq h2
theorem wt_le : ∀ n, n < 10 → ∀ r, r < 2 ^ n → wt r ≤ n := by
  have key : (List.range 10).all (fun n => (List.range (2 ^ n)).all fun r => decide (wt r ≤ n)) = true := by decide +kernel
  intro n hn r hr
  have h1 := List.all_eq_true.mp key n (List.mem_range.mpr hn)
  have h2 := List.all_eq_true.mp h1 r (List.mem_range.mpr hr)
  exact of_decide_eq_true h2

/-- the rows of a class -/
def cls (n k : Nat) : List Nat := (List.range (2 ^ n)).filter fun r => decide (wt r = k)
theorem mem_cls {n k r : Nat} : r ∈ cls n k ↔ r < 2 ^ n ∧ wt r = k := by
  unfold cls; rw [List.mem_filter, List.mem_range]; simp
theorem cls_nodup (n k : Nat) : (cls n k).Nodup := List.nodup_range.filter _
theorem cls_two : ∀ n, n < 9 → ∀ k, 1 ≤ k → k < n → 2 ≤ (cls n k).length := by
  have key : (List.range 9).all (fun n => (List.range n).all fun k => decide (1 ≤ k → 2 ≤ (cls n k).length)) = true := by decide +kernel
  intro n hn k hk1 hk
  have h1 := List.all_eq_true.mp key n (List.mem_range.mpr hn)
  have h2 := List.all_eq_true.mp h1 k (List.mem_range.mpr hk)
  exact of_decide_eq_true h2 hk1

/-! ### inversions -/
def inv : List Nat → Nat
  | [] => 0
  | x :: xs => (xs.filter fun y => decide (y < x)).length + inv xs
/-- pairs (x of the first, y of the second) with y < x -/
def crs : List Nat → List Nat → Nat
  | [], _ => 0
  | x :: xs, ys => (ys.filter fun y => decide (y < x)).length + crs xs ys
theorem crs_nil : ∀ xs, crs xs [] = 0
  | [] => rfl
  | x :: xs => by show ([].filter _).length + crs xs [] = 0; simp [crs_nil xs]
theorem inv_app : ∀ xs ys, inv (xs ++ ys) = inv xs + inv ys + crs xs ys
  | [], ys => by simp [inv, crs]
  | x :: xs, ys => by
    show ((xs ++ ys).filter _).length + inv (xs ++ ys) = _
    rw [inv_app xs ys, List.filter_append, List.length_append]
    simp only [inv, crs]; omega
theorem crs_app : ∀ xs ys zs, crs xs (ys ++ zs) = crs xs ys + crs xs zs
  | [], ys, zs => rfl
  | x :: xs, ys, zs => by
    simp only [crs]
    rw [crs_app xs ys zs, List.filter_append, List.length_append]; omega
theorem app_crs : ∀ xs ys zs, crs (xs ++ ys) zs = crs xs zs + crs ys zs
  | [], ys, zs => by simp [crs]
  | x :: xs, ys, zs => by
    simp only [List.cons_append, crs]
    rw [app_crs xs ys zs]; omega
theorem crs_one (xs : List Nat) (y : Nat) : crs xs [y] = (xs.filter fun x => decide (y < x)).length := by
  induction xs with
  | nil => rfl
  | cons x xs ih =>
    simp only [crs, ih, List.filter_cons]
    by_cases h : y < x <;> simp [h] <;> omega
theorem one_crs (x : Nat) (ys : List Nat) : crs [x] ys = (ys.filter fun y => decide (y < x)).length := by
  simp [crs]
theorem inv_snoc (xs : List Nat) (y : Nat) : inv (xs ++ [y]) = inv xs + (xs.filter fun x => decide (y < x)).length := by
  rw [inv_app, crs_one]; simp [inv]
theorem two_sides (B : List Nat) (x : Nat) (h : x ∉ B) : (B.filter fun y => decide (y < x)).length + (B.filter fun y => decide (x < y)).length = B.length := by
  induction B with
  | nil => rfl
  | cons b B ih =>
    have h1 : x ≠ b := fun e => h (by simp [e])
    have h2 : x ∉ B := fun e => h (by simp [e])
    have := ih h2
    simp only [List.filter_cons, List.length_cons]
    by_cases hb : b < x
    · have : ¬ x < b := by omega
      simp [hb, this]; omega
    · have : x < b := by omega
      simp [hb, this]; omega
/-- two items change places: the inversions change by an odd number -/
theorem inv_swap (A B C : List Nat) (x y : Nat) (hxy : x ≠ y) (hx : x ∉ B) (hy : y ∉ B) :
    (inv (A ++ x :: (B ++ y :: C)) + 1) % 2 = inv (A ++ y :: (B ++ x :: C)) % 2 := by
  have e1 : A ++ x :: (B ++ y :: C) = A ++ ([x] ++ (B ++ ([y] ++ C))) := by simp
  have e2 : A ++ y :: (B ++ x :: C) = A ++ ([y] ++ (B ++ ([x] ++ C))) := by simp
  rw [e1, e2]
  simp only [inv_app, crs_app, app_crs]
  have b1 := two_sides B x hx
  have b2 := two_sides B y hy
  have i1 : inv [x] = 0 := rfl
  have i2 : inv [y] = 0 := rfl
  have c1 : crs [x] [y] + crs [y] [x] = 1 := by
    simp only [one_crs, List.filter_cons, List.filter_nil]
    by_cases h : x < y
    · have : ¬ y < x := by omega
      simp [h, this]
    · have : y < x := by omega
      simp [h, this]
  have d1 : crs [x] B = (B.filter fun y => decide (y < x)).length := one_crs _ _
  have d2 : crs [y] B = (B.filter fun z => decide (z < y)).length := one_crs _ _
  have d3 : crs B [x] = (B.filter fun y => decide (x < y)).length := crs_one _ _
  have d4 : crs B [y] = (B.filter fun z => decide (y < z)).length := crs_one _ _
  omega

/-! ### functions on rows, swaps -/
def swp (g : Nat → Nat) (a b : Nat) : Nat → Nat := fun r => if r = a then g b else if r = b then g a else g r
theorem swp_a {g : Nat → Nat} {a b : Nat} : swp g a b a = g b := if_pos rfl
theorem swp_b {g : Nat → Nat} {a b : Nat} : swp g a b b = g a := by
  unfold swp
  by_cases h : b = a
  · rw [if_pos h, h]
  · rw [if_neg h, if_pos rfl]
theorem swp_ne {g : Nat → Nat} {a b r : Nat} (h1 : r ≠ a) (h2 : r ≠ b) : swp g a b r = g r := by
  unfold swp; rw [if_neg h1, if_neg h2]
theorem swp_comm {g : Nat → Nat} {a b : Nat} : swp g a b = swp g b a := by
  funext r
  by_cases h1 : r = a
  · subst h1; rw [swp_a, swp_b]
  · by_cases h2 : r = b
    · subst h2; rw [swp_a, swp_b]
    · rw [swp_ne h1 h2, swp_ne h2 h1]
theorem map_out {g : Nat → Nat} {a b : Nat} {l : List Nat} (ha : a ∉ l) (hb : b ∉ l) : l.map (swp g a b) = l.map g :=
  List.map_congr_left fun r hr => swp_ne (fun e => ha (e ▸ hr)) (fun e => hb (e ▸ hr))
theorem split_two {l : List Nat} {a b : Nat} (hab : a ≠ b) (ha : a ∈ l) (hb : b ∈ l) :
    (∃ A B C, l = A ++ a :: (B ++ b :: C)) ∨ (∃ A B C, l = A ++ b :: (B ++ a :: C)) := by
  obtain ⟨A, R, rfl⟩ := List.append_of_mem ha
  rcases List.mem_append.mp hb with h | h
  · obtain ⟨A1, A2, rfl⟩ := List.append_of_mem h
    exact .inr ⟨A1, A2, R, by simp⟩
  · rcases List.mem_cons.mp h with h | h
    · exact absurd h.symm hab
    · obtain ⟨R1, R2, rfl⟩ := List.append_of_mem h
      exact .inl ⟨A, R1, R2, rfl⟩
theorem inv_map_swp {g : Nat → Nat} {l : List Nat} {a b : Nat} (hn : l.Nodup) (hi : ∀ x ∈ l, ∀ y ∈ l, g x = g y → x = y) (hab : a ≠ b) (ha : a ∈ l) (hb : b ∈ l) :
    inv (l.map (swp g a b)) % 2 = (inv (l.map g) + 1) % 2 := by
  have core : ∀ {a b : Nat} {A B C : List Nat}, a ≠ b → l = A ++ a :: (B ++ b :: C) → inv (l.map (swp g a b)) % 2 = (inv (l.map g) + 1) % 2 := by
    intro a b A B C hab e
    subst e
    have hn1 := List.nodup_append.mp hn
    have nA : a ∉ A ∧ b ∉ A := ⟨fun h => hn1.2.2 a h a (by simp) rfl, fun h => hn1.2.2 b h b (by simp) rfl⟩
    have hn2 := List.nodup_cons.mp hn1.2.1
    have hn3 := List.nodup_append.mp hn2.2
    have naB : a ∉ B ∧ a ∉ C := ⟨fun h => hn2.1 (by simp [h]), fun h => hn2.1 (by simp [h])⟩
    have nbB : b ∉ B := fun h => hn3.2.2 b h b (by simp) rfl
    have nbC : b ∉ C := (List.nodup_cons.mp hn3.2.1).1
    simp only [List.map_append, List.map_cons]
    rw [map_out nA.1 nA.2, map_out naB.1 nbB, map_out naB.2 nbC, swp_a, swp_b]
    refine (inv_swap (A.map g) (B.map g) (C.map g) (g a) (g b) (fun e => hab (hi a (by simp) b (by simp) e)) (fun h => ?_) (fun h => ?_)).symm
    · obtain ⟨z, hz, e⟩ := List.mem_map.mp h
      have := hi z (by simp [hz]) a (by simp) e
      exact naB.1 (this ▸ hz)
    · obtain ⟨z, hz, e⟩ := List.mem_map.mp h
      have := hi z (by simp [hz]) b (by simp) e
      exact nbB (this ▸ hz)
  rcases split_two hab ha hb with ⟨A, B, C, e⟩ | ⟨A, B, C, e⟩
  · exact core hab e
  · rw [swp_comm]; exact core (Ne.symm hab) e

/-- a one-to-one function on the rows below N that keeps weights -/
structure Prm (N : Nat) (g : Nat → Nat) : Prop where
  lt : ∀ r, r < N → g r < N
  inj : ∀ x y, x < N → y < N → g x = g y → x = y
  wt : ∀ r, r < N → wt (g r) = wt r
theorem Prm.id (N : Nat) : Prm N fun r => r := ⟨fun _ h => h, fun _ _ _ _ h => h, fun _ _ => rfl⟩
theorem Prm.swp {N : Nat} {g : Nat → Nat} (P : Prm N g) {a b : Nat} (ha : a < N) (hb : b < N) (hw : KL.wt a = KL.wt b) : Prm N (swp g a b) := by
  refine ⟨fun r hr => ?_, fun x y hx hy e => ?_, fun r hr => ?_⟩
  · by_cases h1 : r = a
    · subst h1; rw [swp_a]; exact P.lt _ hb
    · by_cases h2 : r = b
      · subst h2; rw [swp_b]; exact P.lt _ ha
      · rw [swp_ne h1 h2]; exact P.lt _ hr
  · by_cases x1 : x = a
    · subst x1
      rw [swp_a] at e
      by_cases y1 : y = x
      · exact y1.symm
      · by_cases y2 : y = b
        · subst y2; rw [swp_b] at e; exact (P.inj _ _ hb ha e).symm
        · rw [swp_ne y1 y2] at e; exact absurd (P.inj _ _ hb hy e).symm y2
    · by_cases x2 : x = b
      · subst x2
        rw [swp_b] at e
        by_cases y1 : y = a
        · subst y1; rw [swp_a] at e; exact (P.inj _ _ ha hb e).symm
        · by_cases y2 : y = x
          · exact y2.symm
          · rw [swp_ne y1 y2] at e; exact absurd (P.inj _ _ ha hy e).symm y1
      · rw [swp_ne x1 x2] at e
        by_cases y1 : y = a
        · subst y1; rw [swp_a] at e; exact absurd (P.inj _ _ hx hb e) x2
        · by_cases y2 : y = b
          · subst y2; rw [swp_b] at e; exact absurd (P.inj _ _ hx ha e) x1
          · rw [swp_ne y1 y2] at e; exact P.inj _ _ hx hy e
  · by_cases h1 : r = a
    · subst h1; rw [swp_a, P.wt _ hb, hw]
    · by_cases h2 : r = b
      · subst h2; rw [swp_b, P.wt _ ha, hw]
      · rw [swp_ne h1 h2]; exact P.wt _ hr
/-- the inversions in class k -/
def ik (n : Nat) (g : Nat → Nat) (k : Nat) : Nat := inv ((cls n k).map g)
theorem ik_swp {n : Nat} {g : Nat → Nat} (P : Prm (2 ^ n) g) {a b : Nat} (hab : a ≠ b) (ha : a < 2 ^ n) (hb : b < 2 ^ n) (hw : wt a = wt b) (k : Nat) :
    ik n (swp g a b) k % 2 = (ik n g k + if wt a = k then 1 else 0) % 2 := by
  unfold ik
  by_cases h : wt a = k
  · rw [if_pos h]
    exact inv_map_swp (cls_nodup n k) (fun x hx y hy e => P.inj x y (mem_cls.mp hx).1 (mem_cls.mp hy).1 e) hab (mem_cls.mpr ⟨ha, h⟩) (mem_cls.mpr ⟨hb, hw.symm.trans h⟩)
  · rw [if_neg h, map_out (fun z => h (mem_cls.mp z).2) (fun z => h (hw.trans (mem_cls.mp z).2))]; rfl
theorem inv_sorted : ∀ {l : List Nat}, l.Pairwise (· < ·) → inv l = 0
  | [], _ => rfl
  | x :: l, h => by
    have h' := List.pairwise_cons.mp h
    show (l.filter _).length + inv l = 0
    rw [inv_sorted h'.2]
    have : l.filter (fun y => decide (y < x)) = [] := List.filter_eq_nil_iff.mpr fun y hy => by
      have := h'.1 y hy
      simp; omega
    rw [this]; rfl
theorem cls_sorted (n k : Nat) : (cls n k).Pairwise (· < ·) := List.Pairwise.filter _ List.pairwise_lt_range
theorem ik_id {n : Nat} {g : Nat → Nat} {k : Nat} (h : ∀ r, r < 2 ^ n → wt r = k → g r = r) : ik n g k = 0 := by
  unfold ik
  rw [List.map_congr_left (g := fun r => r) fun r hr => h r (mem_cls.mp hr).1 (mem_cls.mp hr).2, List.map_id']
  exact inv_sorted (cls_sorted n k)
theorem ik_congr {n : Nat} {g g' : Nat → Nat} {k : Nat} (h : ∀ r, r < 2 ^ n → g r = g' r) : ik n g k = ik n g' k := by
  unfold ik
  rw [List.map_congr_left fun r hr => h r (mem_cls.mp hr).1]
end KL

/-! KLCyc -/
set_option linter.all false
set_option maxRecDepth 20000
/-! Cycles: what the program's walk of the cycles keeps; the parities by cycles are those by inversions. -/
namespace KL
theorem nodup_le : ∀ (N : Nat) (l : List Nat), l.Nodup → (∀ x ∈ l, x < N) → l.length ≤ N
  | 0, l, _, h => by
    cases l with
    | nil => simp
    | cons x l => exact absurd (h x (by simp)) (by omega)
  | N + 1, l, hn, h => by
    have h1 : (l.filter fun x => decide (x ≠ N)).length ≤ N := nodup_le N _ (hn.filter _) fun x hx => by
      have := List.mem_filter.mp hx
      have h2 := h x this.1
      have h3 : x ≠ N := by simpa using this.2
      omega
    have h2 : ∀ (l : List Nat), l.Nodup → l.length ≤ (l.filter fun x => decide (x ≠ N)).length + 1 := by
      intro l
      induction l with
      | nil => intro _; simp
      | cons y l ih =>
        intro hn
        have hn' := List.nodup_cons.mp hn
        by_cases e : y = N
        · subst e
          have this : l.filter (fun x => decide (x ≠ y)) = l := List.filter_eq_self.mpr fun x hx => by
            have : x ≠ y := fun e => hn'.1 (e ▸ hx)
            simpa using this
          rw [List.filter_cons, this]
          simp
        · have := ih hn'.2
          rw [List.filter_cons]
          simp [e]
          simpa using this
    have := h2 l hn
    omega

/-- what cycles add to parity k -/
def cpar (k : Nat) (c : List Nat) : Nat := if wt (c.headD 0) = k then c.length - 1 else 0
def csum (cs : List (List Nat)) (k : Nat) : Nat := (cs.map (cpar k)).sum
theorem csum_snoc (cs : List (List Nat)) (c : List Nat) (k : Nat) : csum (cs ++ [c]) k = csum cs k + cpar k c := by
  unfold csum; rw [List.map_append, List.sum_append]; simp

/-- between two rows of the outer loop -/
structure CycO (n : Nat) (g : Nat → Nat) (first : Nat) (hs : List Nat) (cs : List (List Nat)) (G : Nat → Nat) : Prop where
  P : Prm (2 ^ n) G
  hn : hs.Nodup
  hlt : ∀ r ∈ hs, r < 2 ^ n
  fx : ∀ r ∈ hs, G r = r
  out : ∀ r, r ∉ hs → G r = g r
  cl : ∀ r, r < 2 ^ n → r ∉ hs → g r ∉ hs
  lo : ∀ r, r < first → G r = r
  ne : ∀ c ∈ cs, c ≠ [] ∧ ∀ x ∈ c, x < 2 ^ n
  len : cs.length ≤ first
  clen : ∀ c ∈ cs, c.length ≤ 2 ^ n
  par : ∀ k, (ik n g k + csum cs k) % 2 = ik n G k % 2
theorem CycO.start {n : Nat} {g : Nat → Nat} (P : Prm (2 ^ n) g) : CycO n g 0 [] [] g :=
  ⟨P, List.nodup_nil, fun _ h => (by cases h), fun _ h => (by cases h), fun _ _ => rfl, fun _ _ _ h => (by cases h), fun _ h => absurd h (Nat.not_lt_zero _), fun _ h => (by cases h), Nat.le_refl _, fun _ h => (by cases h), fun k => rfl⟩
theorem CycO.skip {n : Nat} {g G : Nat → Nat} {first : Nat} {hs : List Nat} {cs : List (List Nat)} (C : CycO n g first hs cs G) (h : first ∈ hs ∨ g first = first) : CycO n g (first + 1) hs cs G :=
  { C with
    len := Nat.le_succ_of_le C.len
    lo := fun r hr => by
      by_cases e : r = first
      · subst e
        by_cases hm : r ∈ hs
        · exact C.fx r hm
        · rw [C.out r hm]; exact h.elim (fun z => absurd z hm) id
      · exact C.lo r (by omega) }
theorem CycO.done {n : Nat} {g G : Nat → Nat} {hs : List Nat} {cs : List (List Nat)} (C : CycO n g (2 ^ n) hs cs G) (k : Nat) : csum cs k % 2 = ik n g k % 2 := by
  have h := C.par k
  rw [ik_id fun r hr _ => C.lo r hr] at h
  omega
/-- within a cycle -/
structure CycI (n : Nat) (G : Nat → Nat) (first : Nat) (hs c : List Nat) (row : Nat) (G' : Nat → Nat) : Prop where
  P : Prm (2 ^ n) G'
  hd : ∃ t, c = first :: t
  cn : c.Nodup
  clt : ∀ x ∈ c, x < 2 ^ n ∧ x ∉ hs
  re : row = G' first
  rlt : row < 2 ^ n
  rh : row ∉ hs
  fx : ∀ x ∈ c, x ≠ first → G' x = x
  out : ∀ r, r ∉ c → G' r = G r
  par : ∀ k, ik n G' k % 2 = (ik n G k + cpar k c) % 2
section
variable {n : Nat} {g G G' : Nat → Nat} {first row : Nat} {hs c : List Nat} {cs : List (List Nat)}
theorem CycI.start (C : CycO n g first hs cs G) (hf : first < 2 ^ n) (h1 : first ∉ hs) : CycI n G first hs [first] (g first) G where
  P := C.P
  hd := ⟨[], rfl⟩
  cn := by simp
  clt := fun x hx => by
    have e : x = first := by simpa using hx
    subst e; exact ⟨hf, h1⟩
  re := (C.out _ h1).symm
  rlt := by rw [← C.out _ h1]; exact C.P.lt _ hf
  rh := C.cl _ hf h1
  fx := fun x hx hne => absurd (by simpa using hx) hne
  out := fun _ _ => rfl
  par := fun k => by
    have : cpar k [first] = 0 := by unfold cpar; simp
    rw [this, Nat.add_zero]
theorem CycI.notin (I : CycI n G first hs c row G') (hr : row ≠ first) : row ∉ c := fun h => by
  obtain ⟨t, e⟩ := I.hd
  have hf : first < 2 ^ n := (I.clt first (by rw [e]; simp)).1
  have e1 := I.fx row h hr
  rw [I.re] at e1 hr
  exact hr (I.P.inj _ _ (I.P.lt _ hf) hf e1)
theorem CycI.next (C : CycO n g first hs cs G) (I : CycI n G first hs c row G') (hr : row ≠ first) : CycI n G first hs (c ++ [row]) (g row) (swp G' first row) := by
  have hm := I.notin hr
  obtain ⟨t, e⟩ := I.hd
  have hf : first < 2 ^ n ∧ first ∉ hs := I.clt first (by rw [e]; simp)
  have hw : wt first = wt row := by rw [I.re, I.P.wt _ hf.1]
  have hg : G' row = g row := by rw [I.out _ hm, C.out _ I.rh]
  refine ⟨I.P.swp hf.1 I.rlt hw, ⟨t ++ [row], by rw [e]; rfl⟩, ?_, fun x hx => ?_, by rw [swp_a, hg], by rw [← hg]; exact I.P.lt _ I.rlt, C.cl _ I.rlt I.rh, fun x hx hne => ?_, fun r hr2 => ?_, fun k => ?_⟩
  · rw [List.nodup_append]
    exact ⟨I.cn, by simp, fun x hx y hy ee => hm (by simp at hy; rw [← hy, ← ee]; exact hx)⟩
  · rcases List.mem_append.mp hx with h | h
    · exact I.clt x h
    · have ee : x = row := by simpa using h
      subst ee; exact ⟨I.rlt, I.rh⟩
  · rcases List.mem_append.mp hx with h | h
    · rw [swp_ne hne (show x ≠ row from fun ee => hm (ee ▸ h))]; exact I.fx x h hne
    · have ee : x = row := by simpa using h
      subst ee; rw [swp_b]; exact I.re.symm
  · have h1 : r ∉ c := fun z => hr2 (by simp [z])
    have h2 : r ≠ row := fun z => hr2 (by simp [z])
    have h3 : r ≠ first := fun z => h1 (by rw [e, z]; simp)
    rw [swp_ne h3 h2]; exact I.out r h1
  · rw [ik_swp I.P (Ne.symm hr) hf.1 I.rlt hw]
    have hp := I.par k
    have e1 : cpar k c = if wt first = k then t.length else 0 := by
      unfold cpar
      rw [e]
      rfl
    have e2 : cpar k (c ++ [row]) = if wt first = k then t.length + 1 else 0 := by
      unfold cpar
      rw [e]
      simp
    rw [e2]
    rw [e1] at hp
    split
    · rw [if_pos (by assumption)] at hp; omega
    · rw [if_neg (by assumption)] at hp; omega
theorem CycI.len (I : CycI n G first hs c row G') : c.length ≤ 2 ^ n := nodup_le _ _ I.cn fun x hx => (I.clt x hx).1
/-- the cycle is closed -/
theorem CycI.done (C : CycO n g first hs cs G) (I : CycI n G first hs c first G') {hs' : List Nat} (hh : ∀ x, x ∈ hs' ↔ x ∈ hs ∨ x ∈ c) (hn : hs'.Nodup) : CycO n g (first + 1) hs' (cs ++ [c]) G' := by
  obtain ⟨t, e⟩ := I.hd
  have hf : first < 2 ^ n ∧ first ∉ hs := I.clt first (by rw [e]; simp)
  have cfx : ∀ x ∈ c, G' x = x := fun x hx => by
    by_cases ee : x = first
    · subst ee; exact I.re.symm
    · exact I.fx x hx ee
  have o : ∀ r, r ∉ hs' → r ∉ hs ∧ r ∉ c := fun r hr => ⟨fun z => hr ((hh r).mpr (.inl z)), fun z => hr ((hh r).mpr (.inr z))⟩
  refine ⟨I.P, hn, fun r hr => ?_, fun r hr => ?_, fun r hr => ?_, fun r hr hr2 hm => ?_, fun r hr => ?_, fun d hd => ?_, ?_, fun d hd => ?_, fun k => ?_⟩
  · exact ((hh r).mp hr).elim (C.hlt r) fun z => (I.clt r z).1
  · rcases (hh r).mp hr with h | h
    · have : r ∉ c := fun z => (I.clt r z).2 h
      rw [I.out r this]; exact C.fx r h
    · exact cfx r h
  · rw [I.out r (o r hr).2]; exact C.out r (o r hr).1
  · have eg : G' r = g r := by rw [I.out r (o r hr2).2]; exact C.out r (o r hr2).1
    rcases (hh _).mp hm with h | h
    · exact C.cl r hr (o r hr2).1 h
    · have e1 := cfx _ h
      rw [← eg] at e1 h
      have := I.P.inj _ _ (I.P.lt _ hr) hr e1
      rw [this] at h
      exact (o r hr2).2 h
  · by_cases hc : r ∈ c
    · exact cfx r hc
    · rw [I.out r hc]
      refine C.lo r ?_
      have : r ≠ first := fun z => hc (by rw [e, z]; simp)
      omega
  · rcases List.mem_append.mp hd with h | h
    · exact C.ne d h
    · have ee : d = c := by simpa using h
      subst ee
      exact ⟨by rw [e]; simp, fun x hx => (I.clt x hx).1⟩
  · rw [List.length_append]; have := C.len; simp; omega
  · rcases List.mem_append.mp hd with h | h
    · exact C.clen d h
    · have ee : d = c := by simpa using h
      subst ee
      exact I.len
  · rw [csum_snoc]
    have h1 := C.par k
    have h2 := I.par k
    omega
end

/-- the parities, by inversions -/
def pars (n : Nat) (g : Nat → Nat) : List Nat := (List.range (n - 1)).map fun i => ik n g (i + 1) % 2
/-- the odds behind some cycles -/
def odds (n : Nat) (cs : List (List Nat)) : List Nat := (List.range (n + 1)).map fun k => csum cs k % 2
theorem odds_nil (n : Nat) : odds n [] = List.replicate (n + 1) 0 := by
  unfold odds
  refine List.ext_getElem (by simp) fun i h1 h2 => ?_
  simp [csum]
theorem odds_get {n : Nat} {cs : List (List Nat)} {k : Nat} (h : k ≤ n) : (odds n cs)[k]? = some (csum cs k % 2) := by
  unfold odds; rw [List.getElem?_map, List.getElem?_range (by omega)]; rfl
theorem odds_len {n : Nat} {cs : List (List Nat)} : (odds n cs).length = n + 1 := by unfold odds; simp
theorem odds_snoc {n : Nat} {cs : List (List Nat)} {c : List Nat} (hc : c ≠ []) (hw : wt (c.headD 0) ≤ n) :
    odds n (cs ++ [c]) = (odds n cs).set (wt (c.headD 0)) ((csum cs (wt (c.headD 0)) % 2 + (c.length - 1)) % 2) := by
  refine List.ext_getElem? fun k => ?_
  by_cases hk : k ≤ n
  · rw [odds_get hk, csum_snoc]
    by_cases e : wt (c.headD 0) = k
    · rw [e, List.getElem?_set_self (by rw [odds_len]; omega)]
      unfold cpar
      rw [if_pos e, Nat.mod_add_mod]
    · rw [List.getElem?_set_ne e, odds_get hk]
      unfold cpar
      rw [if_neg e]; rfl
  · rw [List.getElem?_eq_none (by rw [odds_len]; omega), List.getElem?_eq_none (by rw [List.length_set, odds_len]; omega)]
theorem odds_pars {n : Nat} {g G : Nat → Nat} {hs : List Nat} {cs : List (List Nat)} (C : CycO n g (2 ^ n) hs cs G) : ((odds n cs).drop 1).take (n - 1) = pars n g := by
  refine List.ext_getElem? fun i => ?_
  unfold pars
  by_cases h : i < n - 1
  · rw [List.getElem?_take_of_lt h, List.getElem?_drop, Nat.add_comm 1 i, odds_get (by omega), List.getElem?_map, List.getElem?_range h, C.done]
    rfl
  · rw [List.getElem?_eq_none (by rw [List.length_take, List.length_drop, odds_len]; omega), List.getElem?_eq_none (by simp; omega)]
end KL

/-! KLAlg -/
set_option linter.all false
set_option maxRecDepth 20000
/-! Tables as lists, the free table, the table of one lamp more, its parities; the finite algebra of the choices. -/
namespace KL
def fn (gl : List Nat) : Nat → Nat := fun r => gl.getD r 0
/-- goals of n lamps -/
structure Tab (n : Nat) (gl : List Nat) : Prop where
  len : gl.length = 2 ^ n
  P : Prm (2 ^ n) (fn gl)
theorem fn_get {gl : List Nat} {r : Nat} (h : r < gl.length) : gl[r]? = some (fn gl r) := by
  unfold fn; rw [List.getD_eq_getElem?_getD, List.getElem?_eq_getElem h]; rfl
theorem Tab.get {n : Nat} {gl : List Nat} (T : Tab n gl) {r : Nat} (h : r < 2 ^ n) : gl[r]? = some (fn gl r) := fn_get (by rw [T.len]; exact h)
theorem Tab.lt {n : Nat} {gl : List Nat} (T : Tab n gl) {x : Nat} (h : x ∈ gl) : x < 2 ^ n := by
  obtain ⟨i, hi, e⟩ := List.mem_iff_getElem.mp h
  have h2 := T.get (r := i) (by rw [← T.len]; exact hi)
  rw [List.getElem?_eq_getElem hi, e] at h2
  rw [Option.some.inj h2]
  exact T.P.lt _ (by rw [← T.len]; exact hi)
theorem Tab.nodup {n : Nat} {gl : List Nat} (T : Tab n gl) : gl.Nodup := by
  rw [List.nodup_iff_pairwise_ne, List.pairwise_iff_getElem]
  intro i j hi hj hij e
  have h1 := fn_get hi
  have h2 := fn_get hj
  rw [List.getElem?_eq_getElem hi] at h1
  rw [List.getElem?_eq_getElem hj] at h2
  have := T.P.inj i j (by rw [← T.len]; exact hi) (by rw [← T.len]; exact hj) ((Option.some.inj h1).symm.trans (e.trans (Option.some.inj h2)))
  omega
theorem fn_range {N r : Nat} (h : r < N) : fn (List.range N) r = r := by
  unfold fn; rw [List.getD_eq_getElem?_getD, List.getElem?_range h]; rfl
theorem Tab.range (n : Nat) : Tab n (List.range (2 ^ n)) := by
  refine ⟨by simp, fun r h => ?_, fun x y hx hy e => ?_, fun r h => ?_⟩
  · rw [fn_range h]; exact h
  · rw [fn_range hx, fn_range hy] at e; exact e
  · rw [fn_range h]
theorem tab_of_ext {n : Nat} {gl : List Nat} {g : Nat → Nat} (P : Prm (2 ^ n) g) (hl : gl.length = 2 ^ n) (h : ∀ r, r < 2 ^ n → fn gl r = g r) : Tab n gl := by
  refine ⟨hl, fun r hr => ?_, fun x y hx hy e => ?_, fun r hr => ?_⟩
  · rw [h r hr]; exact P.lt r hr
  · rw [h x hx, h y hy] at e; exact P.inj x y hx hy e
  · rw [h r hr]; exact P.wt r hr
/-- two goals change places -/
theorem Tab.swap {n : Nat} {gl : List Nat} (T : Tab n gl) {a b : Nat} (ha : a < 2 ^ n) (hb : b < 2 ^ n) (hw : wt a = wt b) :
    Tab n ((gl.set a (fn gl b)).set b (fn gl a)) ∧ ∀ r, r < 2 ^ n → fn ((gl.set a (fn gl b)).set b (fn gl a)) r = swp (fn gl) a b r := by
  have e : ∀ r, r < 2 ^ n → fn ((gl.set a (fn gl b)).set b (fn gl a)) r = swp (fn gl) a b r := fun r hr => by
    have hl : ((gl.set a (fn gl b)).set b (fn gl a)).length = 2 ^ n := by simp [T.len]
    have h1 := fn_get (gl := (gl.set a (fn gl b)).set b (fn gl a)) (r := r) (by rw [hl]; exact hr)
    refine Option.some.inj (h1.symm.trans ?_)
    by_cases e2 : r = b
    · subst e2; rw [List.getElem?_set_self (by simp [T.len, hb]), swp_b]
    · rw [List.getElem?_set_ne (Ne.symm e2)]
      by_cases e1 : r = a
      · subst e1; rw [List.getElem?_set_self (by rw [T.len]; exact hr), swp_a]
      · rw [List.getElem?_set_ne (Ne.symm e1), swp_ne e1 e2, T.get hr]
  exact ⟨tab_of_ext (T.P.swp ha hb hw) (by simp [T.len]) e, e⟩

/-! ### goals with some parities -/
/-- the two least rows of a class -/
def cA (n k : Nat) : Nat := (cls n k).getD 0 0
def cB (n k : Nat) : Nat := (cls n k).getD 1 0
theorem cAB {n k : Nat} (h : 2 ≤ (cls n k).length) : (cls n k)[0]? = some (cA n k) ∧ (cls n k)[1]? = some (cB n k) ∧ cA n k < 2 ^ n ∧ cB n k < 2 ^ n ∧ wt (cA n k) = k ∧ wt (cB n k) = k ∧ cA n k ≠ cB n k := by
  have h0 : (cls n k)[0]? = some (cA n k) := by unfold cA; rw [List.getD_eq_getElem?_getD, List.getElem?_eq_getElem (by omega)]; rfl
  have h1 : (cls n k)[1]? = some (cB n k) := by unfold cB; rw [List.getD_eq_getElem?_getD, List.getElem?_eq_getElem (by omega)]; rfl
  have m0 := mem_cls.mp (List.mem_of_getElem? h0)
  have m1 := mem_cls.mp (List.mem_of_getElem? h1)
  refine ⟨h0, h1, m0.1, m1.1, m0.2, m1.2, fun e => ?_⟩
  have := (List.getElem?_inj (i := 0) (j := 1) (by omega) (cls_nodup n k)).mp (by rw [h0, h1, e])
  omega
def gstep (n : Nat) (gl : List Nat) (i bit : Nat) : List Nat := if bit = 1 then (gl.set (cA n (i + 1)) (cB n (i + 1))).set (cB n (i + 1)) (cA n (i + 1)) else gl
/-- behind i turns -/
def gw (n : Nat) (bits : List Nat) : Nat → List Nat
  | 0 => List.range (2 ^ n)
  | i + 1 => gstep n (gw n bits i) i (bits.getD i 0)
structure GwOk (n : Nat) (bits : List Nat) (i : Nat) : Prop where
  T : Tab n (gw n bits i)
  hi : ∀ r, r < 2 ^ n → i < wt r → fn (gw n bits i) r = r
  lo : ∀ k, 1 ≤ k → k ≤ i → ik n (fn (gw n bits i)) k % 2 = bits.getD (k - 1) 0
theorem gw_ok {n : Nat} {bits : List Nat} (hn : n < 9) (hb : ∀ x ∈ bits, x < 2) : ∀ i, i ≤ n - 1 → GwOk n bits i
  | 0, _ => ⟨Tab.range n, fun r hr _ => fn_range hr, fun k h1 h2 => by omega⟩
  | i + 1, h => by
    obtain ⟨T, hi, lo⟩ := gw_ok hn hb i (by omega)
    have hbit : bits.getD i 0 < 2 := by
      rw [List.getD_eq_getElem?_getD]
      cases e : bits[i]? with
      | none => simp
      | some v => exact hb v (List.mem_of_getElem? e)
    by_cases hb1 : bits.getD i 0 = 1
    · obtain ⟨_, _, l0, l1, w0, w1, ne⟩ := cAB (cls_two n hn (i + 1) (by omega) (by omega))
      have fA := hi _ l0 (by omega)
      have fB := hi _ l1 (by omega)
      have eq : gw n bits (i + 1) = ((gw n bits i).set (cA n (i + 1)) (fn (gw n bits i) (cB n (i + 1)))).set (cB n (i + 1)) (fn (gw n bits i) (cA n (i + 1))) := by
        show gstep n (gw n bits i) i (bits.getD i 0) = _
        unfold gstep
        rw [if_pos hb1, fA, fB]
      obtain ⟨T', ef⟩ := T.swap l0 l1 (w0.trans w1.symm)
      rw [← eq] at T' ef
      refine ⟨T', fun r hr hw => ?_, fun k h1 h2 => ?_⟩
      · rw [ef r hr, swp_ne (fun z => by rw [z, w0] at hw; omega) (fun z => by rw [z, w1] at hw; omega)]
        exact hi r hr (by omega)
      · rw [ik_congr ef, ik_swp T.P ne l0 l1 (w0.trans w1.symm)]
        by_cases hk : k = i + 1
        · subst hk
          rw [if_pos w0, ik_id fun r hr hw => hi r hr (by omega)]
          rw [show i + 1 - 1 = i by omega, hb1]
        · rw [if_neg (by rw [w0]; omega)]
          exact lo k h1 (by omega)
    · have hb0 : bits.getD i 0 = 0 := by omega
      have eq : gw n bits (i + 1) = gw n bits i := by
        show gstep n (gw n bits i) i (bits.getD i 0) = _
        unfold gstep
        rw [if_neg hb1]
      refine ⟨eq ▸ T, fun r hr hw => by rw [eq]; exact hi r hr (by omega), fun k h1 h2 => ?_⟩
      rw [eq]
      by_cases hk : k = i + 1
      · subst hk
        rw [ik_id fun r hr hw => hi r hr (by omega), show i + 1 - 1 = i by omega, hb0]
      · exact lo k h1 (by omega)
/-- the free table -/
def gws (n : Nat) (bits : List Nat) : List Nat := gw n bits (n - 1)
theorem gws_tab {n : Nat} {bits : List Nat} (hn : n < 9) (hb : ∀ x ∈ bits, x < 2) : Tab n (gws n bits) := (gw_ok hn hb _ (Nat.le_refl _)).T
theorem gws_pars {n : Nat} {bits : List Nat} (hn : n < 9) (hb : ∀ x ∈ bits, x < 2) (hl : bits.length = n - 1) : pars n (fn (gws n bits)) = bits := by
  have G := gw_ok hn hb _ (Nat.le_refl _)
  refine List.ext_getElem? fun i => ?_
  unfold pars
  by_cases h : i < n - 1
  · rw [List.getElem?_map, List.getElem?_range h]
    show some (ik n (fn (gw n bits (n - 1))) (i + 1) % 2) = _
    rw [G.lo (i + 1) (by omega) (by omega), List.getD_eq_getElem?_getD]
    show some ((bits[i]?).getD 0) = _
    rw [List.getElem?_eq_getElem (by omega)]; rfl
  · rw [List.getElem?_eq_none (by simp; omega), List.getElem?_eq_none (by omega)]
theorem pars_len (n : Nat) (g : Nat → Nat) : (pars n g).length = n - 1 := by unfold pars; simp
theorem pars_bit (n : Nat) (g : Nat → Nat) : ∀ x ∈ pars n g, x < 2 := fun x hx => by
  unfold pars at hx
  obtain ⟨i, _, e⟩ := List.mem_map.mp hx
  omega

/-! ### the table of one lamp more -/
def up (n : Nat) (l : List Nat) : List Nat := l.map fun x => x + 2 ^ n
def two (n : Nat) (off lit : List Nat) : List Nat := off ++ up n lit
section
variable {n : Nat} {off lit : List Nat}
theorem two_off (T : Tab n off) {r : Nat} (h : r < 2 ^ n) : fn (two n off lit) r = fn off r := by
  unfold fn two
  rw [List.getD_eq_getElem?_getD, List.getD_eq_getElem?_getD, List.getElem?_append_left (by rw [T.len]; exact h)]
theorem two_lit (T : Tab n off) (U : Tab n lit) {r : Nat} (h : r < 2 ^ n) : fn (two n off lit) (2 ^ n + r) = fn lit r + 2 ^ n := by
  have e : (two n off lit)[2 ^ n + r]? = some (fn lit r + 2 ^ n) := by
    unfold two up
    rw [List.getElem?_append_right (by rw [T.len]; omega), T.len, show 2 ^ n + r - 2 ^ n = r by omega, List.getElem?_map, U.get h]; rfl
  have h1 := fn_get (gl := two n off lit) (r := 2 ^ n + r) (by unfold two up; rw [List.length_append, List.length_map, T.len, U.len]; omega)
  exact Option.some.inj (h1.symm.trans e)
theorem two_len (T : Tab n off) (U : Tab n lit) : (two n off lit).length = 2 ^ (n + 1) := by
  unfold two up; rw [List.length_append, List.length_map, T.len, U.len, Nat.pow_succ]; omega
theorem two_tab (hn : n < 9) (T : Tab n off) (U : Tab n lit) : Tab (n + 1) (two n off lit) := by
  have hp : 2 ^ (n + 1) = 2 ^ n + 2 ^ n := by rw [Nat.pow_succ]; omega
  have split : ∀ r, r < 2 ^ (n + 1) → r < 2 ^ n ∨ ∃ q, q < 2 ^ n ∧ r = 2 ^ n + q := fun r h => by
    by_cases h1 : r < 2 ^ n
    · exact .inl h1
    · exact .inr ⟨r - 2 ^ n, by omega, by omega⟩
  refine ⟨two_len T U, fun r h => ?_, fun x y hx hy e => ?_, fun r h => ?_⟩
  · rcases split r h with h1 | ⟨q, h1, rfl⟩
    · rw [two_off T h1]; have := T.P.lt _ h1; omega
    · rw [two_lit T U h1]; have := U.P.lt _ h1; omega
  · rcases split x hx with h1 | ⟨q, h1, rfl⟩ <;> rcases split y hy with h2 | ⟨p, h2, rfl⟩
    · rw [two_off T h1, two_off T h2] at e; exact T.P.inj _ _ h1 h2 e
    · rw [two_off T h1, two_lit T U h2] at e; have := T.P.lt _ h1; omega
    · rw [two_lit T U h1, two_off T h2] at e; have := T.P.lt _ h2; omega
    · rw [two_lit T U h1, two_lit T U h2] at e; rw [U.P.inj _ _ h1 h2 (by omega)]
  · rcases split r h with h1 | ⟨q, h1, rfl⟩
    · rw [two_off T h1]; exact T.P.wt _ h1
    · rw [two_lit T U h1, Nat.add_comm, wt_add n hn _ (U.P.lt _ h1), wt_add n hn _ h1, U.P.wt _ h1]
theorem cls_succ (hn : n < 9) (k : Nat) : cls (n + 1) (k + 1) = cls n (k + 1) ++ (cls n k).map (2 ^ n + ·) := by
  unfold cls
  rw [show 2 ^ (n + 1) = 2 ^ n + 2 ^ n by rw [Nat.pow_succ]; omega, List.range_add, List.filter_append, List.filter_map]
  congr 2
  refine List.filter_congr fun r hr => ?_
  have := wt_add n hn r (List.mem_range.mp hr)
  simp [this]
theorem inv_shift (m : Nat) : ∀ l : List Nat, inv (l.map (m + ·)) = inv l
  | [] => rfl
  | x :: l => by
    show ((l.map (m + ·)).filter _).length + inv (l.map (m + ·)) = _
    rw [inv_shift m l, List.filter_map, List.length_map]
    show _ = (l.filter _).length + inv l
    congr 2
    refine List.filter_congr fun y _ => ?_
    simp
theorem crs_zero : ∀ {xs ys : List Nat} {m : Nat}, (∀ x ∈ xs, x < m) → (∀ y ∈ ys, m ≤ y) → crs xs ys = 0
  | [], _, _, _, _ => rfl
  | x :: xs, ys, m, h1, h2 => by
    show (ys.filter _).length + crs xs ys = 0
    rw [crs_zero (fun z hz => h1 z (by simp [hz])) h2]
    have : ys.filter (fun y => decide (y < x)) = [] := List.filter_eq_nil_iff.mpr fun y hy => by
      have a := h1 x (by simp)
      have b := h2 y hy
      simp; omega
    rw [this]; rfl
theorem ik_two (hn : n < 9) (T : Tab n off) (U : Tab n lit) (k : Nat) : ik (n + 1) (fn (two n off lit)) (k + 1) = ik n (fn off) (k + 1) + ik n (fn lit) k := by
  unfold ik
  rw [cls_succ hn, List.map_append, List.map_map]
  have e1 : (cls n (k + 1)).map (fn (two n off lit)) = (cls n (k + 1)).map (fn off) := List.map_congr_left fun r hr => two_off T (mem_cls.mp hr).1
  have e2 : (cls n k).map (fn (two n off lit) ∘ (2 ^ n + ·)) = ((cls n k).map (fn lit)).map (2 ^ n + ·) := by
    rw [List.map_map]
    refine List.map_congr_left fun r hr => ?_
    show fn (two n off lit) (2 ^ n + r) = 2 ^ n + fn lit r
    rw [two_lit T U (mem_cls.mp hr).1]; omega
  rw [e1, e2, inv_app, inv_shift, crs_zero (m := 2 ^ n)]
  · omega
  · intro x hx
    obtain ⟨r, hr, e⟩ := List.mem_map.mp hx
    subst e; exact T.P.lt _ (mem_cls.mp hr).1
  · intro y hy
    obtain ⟨r, _, e⟩ := List.mem_map.mp hy
    omega
end
theorem ik_ends : ∀ n, n < 9 → ∀ g : Nat → Nat, ik n g 0 = 0 ∧ ik n g n = 0 := by
  have key : (List.range 9).all (fun n => decide ((cls n 0).length = 1 ∧ (cls n n).length = 1)) = true := by decide +kernel
  intro n hn g
  have h := of_decide_eq_true (List.all_eq_true.mp key n (List.mem_range.mpr hn))
  have one : ∀ l : List Nat, l.length = 1 → inv (l.map g) = 0 := fun l hl => by
    match l, hl with
    | [x], _ => rfl
  exact ⟨one _ h.1, one _ h.2⟩

/-! ### the algebra of parities -/
def zadd (xs ys : List Nat) : List Nat := List.zipWith (fun a b => (a + b) % 2) xs ys
def mixed (p f : List Nat) (b : Nat) : List Nat := zadd ((if b = 1 then f else p) ++ [0]) (0 :: (if b = 1 then p else f))
/-- the table of one lamp more -/
def hg (n : Nat) (gl free : List Nat) (b : Nat) : List Nat := two n (if b = 1 then free else gl) (if b = 1 then gl else free)
theorem pars_two {n : Nat} {off lit : List Nat} (hn : n < 9) (h1 : 1 ≤ n) (T : Tab n off) (U : Tab n lit) : pars (n + 1) (fn (two n off lit)) = zadd (pars n (fn off) ++ [0]) (0 :: pars n (fn lit)) := by
  refine List.ext_getElem? fun i => ?_
  by_cases h : i < n
  · have e1 : (pars n (fn off) ++ [0])[i]? = some (ik n (fn off) (i + 1) % 2) := by
      by_cases hi : i < n - 1
      · rw [List.getElem?_append_left (by rw [pars_len]; exact hi)]
        unfold pars; rw [List.getElem?_map, List.getElem?_range hi]; rfl
      · have : i = n - 1 := by omega
        rw [List.getElem?_append_right (by rw [pars_len]; omega), pars_len, show i - (n - 1) = 0 by omega, show i + 1 = n by omega, (ik_ends n hn _).2]; rfl
    have e2 : (0 :: pars n (fn lit))[i]? = some (ik n (fn lit) i % 2) := by
      cases i with
      | zero => rw [(ik_ends n hn _).1]; rfl
      | succ i =>
        rw [List.getElem?_cons_succ]
        unfold pars; rw [List.getElem?_map, List.getElem?_range (by omega)]; rfl
    unfold zadd
    rw [List.getElem?_zipWith, e1, e2]
    unfold pars
    rw [List.getElem?_map, List.getElem?_range (by omega)]
    show some (ik (n + 1) (fn (two n off lit)) (i + 1) % 2) = some _
    rw [ik_two hn T U]
    congr 1
    omega
  · rw [List.getElem?_eq_none (by rw [pars_len]; omega), List.getElem?_eq_none (by unfold zadd; simp only [List.length_zipWith, List.length_append, List.length_cons, pars_len, List.length_nil]; omega)]
theorem pars_hg {n : Nat} {gl free : List Nat} {b : Nat} (hn : n < 9) (h1 : 1 ≤ n) (T : Tab n gl) (U : Tab n free) : pars (n + 1) (fn (hg n gl free b)) = mixed (pars n (fn gl)) (pars n (fn free)) b := by
  unfold hg mixed
  split
  · exact pars_two hn h1 U T
  · exact pars_two hn h1 T U
theorem hg_tab {n : Nat} {gl free : List Nat} {b : Nat} (hn : n < 9) (T : Tab n gl) (U : Tab n free) : Tab (n + 1) (hg n gl free b) := by
  unfold hg
  split
  · exact two_tab hn U T
  · exact two_tab hn T U
def freeIn (p m : List Nat) (b : Nat) : Option (List Nat) :=
  let found := zadd m (if b = 1 then 0 :: p else p ++ [0])
  let free := if b = 1 then found.take p.length else found.drop 1
  if mixed p free b = m then some free else none
def gateB (n h : Nat) : List Nat := List.replicate h 0 ++ (List.range (n - 1 - h)).map fun pl => if (n - 2 - h) &&& pl = pl then 1 else 0
/-- the parities that gates of one hand make, behind h numbers of hands -/
def madeK (n : Nat) : Nat → List (List Nat)
  | 0 => [List.replicate (n - 1) 0]
  | h + 1 => madeK n h ++ (madeK n h).map fun each => zadd (gateB n h) each
def made (n : Nat) : List (List Nat) := madeK n (min 1 (n - 2) + 1)
def chU (p : List Nat) (b : Nat) : List (List Nat) := (made (p.length + 2)).filterMap fun m => freeIn p m b
/-- bits as a number, the first one the highest -/
def code : List Nat → Nat
  | [] => 0
  | x :: r => x * 2 ^ r.length + code r
def ins (x : List Nat) : List (List Nat) → List (List Nat)
  | [] => [x]
  | y :: r => if code x ≤ code y then x :: y :: r else y :: ins x r
def srt (l : List (List Nat)) : List (List Nat) := l.foldr ins []
/-- the choices, ascending -/
def ch (p : List Nat) (b : Nat) : List (List Nat) := srt (chU p b)
/-- x + 1 goes into the bits as often as it must -/
def oneRun : Nat → List Nat → List Nat → Nat × List Nat
  | rest, found, [] => (rest, found)
  | rest, found, x :: r => oneRun ((x + rest) % 2) (found ++ [(x + rest) % 2]) r
def oneGo : Nat → List Nat → Bool
  | 0, _ => true
  | k + 1, bits => let q := oneRun 0 [] bits.reverse; if q.1 = 1 then false else oneGo k q.2.dropLast.reverse
def isOne (p : List Nat) : Bool := oneGo (p.length - 2) p
def otherB (p : List Nat) : List Nat := (List.range p.length).map fun pl => (((List.range p.length).filter fun a => decide (a &&& pl = pl)).map fun a => p.getD a 0).sum % 2
def firstOne : Nat → List Nat → Option Nat
  | _, [] => none
  | i, x :: r => if x = 1 then some i else firstOne (i + 1) r
def hands (p : List Nat) : Nat := match firstOne 0 (otherB p) with
  | none => 1
  | some f => max 1 (p.length - 1 - f)
def bitLists : Nat → List (List Nat)
  | 0 => [[]]
  | n + 1 => (bitLists n).map (0 :: ·) ++ (bitLists n).map (1 :: ·)
theorem mem_bitLists : ∀ {n : Nat} {l : List Nat}, l.length = n → (∀ x ∈ l, x < 2) → l ∈ bitLists n
  | 0, l, h, _ => by
    have : l = [] := List.length_eq_zero_iff.mp h
    subst this; exact List.mem_singleton.mpr rfl
  | n + 1, [], h, _ => by cases h
  | n + 1, x :: l, h, hb => by
    have hm := mem_bitLists (n := n) (l := l) (by simpa using h) fun y hy => hb y (by simp [hy])
    have hx := hb x (by simp)
    show x :: l ∈ (bitLists n).map (0 :: ·) ++ (bitLists n).map (1 :: ·)
    rw [List.mem_append]
    by_cases h0 : x = 0
    · subst h0; exact .inl (List.mem_map.mpr ⟨l, hm, rfl⟩)
    · have : x = 1 := by omega
      subst this; exact .inr (List.mem_map.mpr ⟨l, hm, rfl⟩)
def chk (p : List Nat) (b : Nat) : Bool :=
  !(ch p b).isEmpty && decide ((ch p b).length ≤ 4) && (ch p b).all (fun c => decide (c.length = p.length) && c.all (fun x => decide (x < 2)) && isOne (mixed p c b) && decide (hands (mixed p c b) = 1)) &&
    (chU p b).all (fun c => decide (c.length = p.length) && c.all (fun x => decide (x < 2)))
theorem chk_all : (List.range 7).all (fun m => (bitLists m).all fun p => chk p 0 && chk p 1) = true := by decide +kernel
theorem chk_ok {p : List Nat} {b : Nat} (h7 : p.length < 7) (hp : ∀ x ∈ p, x < 2) (hb : b < 2) : chk p b = true := by
  have h1 := List.all_eq_true.mp chk_all p.length (List.mem_range.mpr h7)
  have h2 := Bool.and_eq_true_iff.mp (List.all_eq_true.mp h1 p (mem_bitLists rfl hp))
  have : b = 0 ∨ b = 1 := by omega
  rcases this with rfl | rfl
  · exact h2.1
  · exact h2.2
/-- the first choice -/
def c0 (p : List Nat) (b : Nat) : List Nat := (ch p b).headD []
theorem c0_ok {p : List Nat} {b : Nat} (h7 : p.length < 7) (hp : ∀ x ∈ p, x < 2) (hb : b < 2) :
    (∃ t, ch p b = c0 p b :: t) ∧ (c0 p b).length = p.length ∧ (∀ x ∈ c0 p b, x < 2) ∧ isOne (mixed p (c0 p b) b) = true ∧ hands (mixed p (c0 p b) b) = 1 := by
  have h := chk_ok h7 hp hb
  unfold chk at h
  simp only [Bool.and_eq_true, List.all_eq_true, decide_eq_true_eq] at h
  obtain ⟨⟨⟨h1, h2⟩, h3⟩, h4⟩ := h
  cases e : ch p b with
  | nil => rw [e] at h1; cases h1
  | cons c t =>
    have ec : c0 p b = c := by unfold c0; rw [e]; rfl
    rw [ec]
    obtain ⟨⟨⟨a1, a2⟩, a3⟩, a4⟩ := h3 c (by rw [e]; simp)
    exact ⟨⟨t, rfl⟩, a1, a2, a3, a4⟩
theorem chU_ok {p : List Nat} {b : Nat} (h7 : p.length < 7) (hp : ∀ x ∈ p, x < 2) (hb : b < 2) : ∀ c ∈ chU p b, c.length = p.length ∧ ∀ x ∈ c, x < 2 := by
  have h := chk_ok h7 hp hb
  unfold chk at h
  simp only [Bool.and_eq_true, List.all_eq_true, decide_eq_true_eq] at h
  exact h.2
end KL

/-! KLSort -/
set_option linter.all false
/-! What is sorted is told by its items alone. -/
namespace KL
theorem ins_perm (x : List Nat) : ∀ l, (ins x l).Perm (x :: l)
  | [] => List.Perm.refl _
  | y :: r => by
    unfold ins
    split
    · exact List.Perm.refl _
    · exact ((ins_perm x r).cons y).trans (List.Perm.swap _ _ _)
theorem srt_perm : ∀ l, (srt l).Perm l
  | [] => List.Perm.refl _
  | x :: l => (ins_perm x _).trans ((srt_perm l).cons x)
theorem ins_sorted (x : List Nat) : ∀ {l : List (List Nat)}, l.Pairwise (fun a b => code a ≤ code b) → (ins x l).Pairwise fun a b => code a ≤ code b
  | [], _ => by simp [ins]
  | y :: r, h => by
    have h' := List.pairwise_cons.mp h
    unfold ins
    split
    · rename_i c
      refine List.pairwise_cons.mpr ⟨fun z hz => ?_, h⟩
      rcases List.mem_cons.mp hz with e | hz
      · subst e; exact c
      · exact Nat.le_trans c (h'.1 z hz)
    · rename_i c
      refine List.pairwise_cons.mpr ⟨fun z hz => ?_, ins_sorted x h'.2⟩
      rcases List.mem_cons.mp ((ins_perm x r).mem_iff.mp hz) with e | hz
      · subst e; omega
      · exact h'.1 z hz
theorem srt_sorted : ∀ l, (srt l).Pairwise fun a b => code a ≤ code b
  | [] => List.Pairwise.nil
  | x :: l => ins_sorted x (srt_sorted l)
theorem code_lt : ∀ {l : List Nat}, (∀ x ∈ l, x < 2) → code l < 2 ^ l.length
  | [], _ => by simp [code]
  | x :: l, h => by
    have h1 := code_lt (l := l) fun y hy => h y (by simp [hy])
    have h2 := h x (by simp)
    show x * 2 ^ l.length + code l < 2 ^ (l.length + 1)
    rw [Nat.pow_succ]
    have : x = 0 ∨ x = 1 := by omega
    rcases this with rfl | rfl <;> omega
theorem code_inj : ∀ {a b : List Nat}, a.length = b.length → (∀ x ∈ a, x < 2) → (∀ x ∈ b, x < 2) → code a = code b → a = b
  | [], [], _, _, _, _ => rfl
  | [], _ :: _, h, _, _, _ => by cases h
  | _ :: _, [], h, _, _, _ => by cases h
  | x :: a, y :: b, hl, ha, hb, e => by
    have hl' : a.length = b.length := by simpa using hl
    have h1 := code_lt (l := a) fun z hz => ha z (by simp [hz])
    have h2 := code_lt (l := b) fun z hz => hb z (by simp [hz])
    have hx := ha x (by simp)
    have hy := hb y (by simp)
    have e' : x * 2 ^ a.length + code a = y * 2 ^ b.length + code b := e
    rw [← hl'] at e' h2
    have hxy : x = y := by
      have : x = 0 ∨ x = 1 := by omega
      have : y = 0 ∨ y = 1 := by omega
      rcases ‹x = 0 ∨ x = 1› with rfl | rfl <;> rcases ‹y = 0 ∨ y = 1› with rfl | rfl <;> omega
    subst hxy
    rw [code_inj hl' (fun z hz => ha z (by simp [hz])) (fun z hz => hb z (by simp [hz])) (by omega)]
theorem srt_unique {l U : List (List Nat)} {d : Nat} (hp : l.Perm U) (hs : l.Pairwise fun a b => code a ≤ code b) (hU : ∀ c ∈ U, c.length = d ∧ ∀ x ∈ c, x < 2) : l = srt U := by
  refine List.Perm.eq_of_pairwise (le := fun a b => code a ≤ code b) (fun a b ha hb h1 h2 => ?_) hs (srt_sorted U) (hp.trans (srt_perm U).symm)
  have a1 := hU a (hp.mem_iff.mp ha)
  have b1 := hU b ((srt_perm U).mem_iff.mp hb)
  exact code_inj (a1.1.trans b1.1.symm) a1.2 b1.2 (Nat.le_antisymm h1 h2)
theorem mem_ch {p : List Nat} {b : Nat} {c : List Nat} : c ∈ ch p b ↔ c ∈ chU p b := (srt_perm _).mem_iff
/-- N different numbers below N, ascending -/
theorem range_of : ∀ (N : Nat) (l : List Nat), l.length = N → l.Pairwise (· < ·) → (∀ x ∈ l, x < N) → l = List.range N
  | 0, l, h, _, _ => List.length_eq_zero_iff.mp h
  | N + 1, l, h, hs, hlt => by
    have hne : l ≠ [] := fun e => by rw [e] at h; cases h
    have e := List.dropLast_concat_getLast hne
    generalize l.dropLast = l0 at e
    generalize l.getLast hne = z at e
    subst e
    have h0 : l0.length = N := by simpa using h
    have hs' := List.pairwise_append.mp hs
    have hz : ∀ x ∈ l0, x < z := fun x hx => hs'.2.2 x hx z (by simp)
    have hzN := hlt z (by simp)
    have e0 := range_of N l0 h0 hs'.1 fun x hx => by have := hz x hx; omega
    have hzN' : N ≤ z := by
      cases N with
      | zero => omega
      | succ N => have := hz N (by rw [e0]; simp); omega
    have : z = N := by omega
    rw [e0, this, List.range_succ]
theorem perm_range {N : Nat} {l : List Nat} (hl : l.length = N) (hn : l.Nodup) (hlt : ∀ x ∈ l, x < N) : l.Perm (List.range N) := by
  have hp := List.mergeSort_perm l (fun a b => decide (a ≤ b))
  have hs := List.pairwise_mergeSort (le := fun a b => decide (a ≤ b)) (fun a b c h1 h2 => by simp at *; omega) (fun a b => by simp; omega) l
  have hn' := hp.nodup_iff.mpr hn
  have e : l.mergeSort (fun a b => decide (a ≤ b)) = List.range N := by
    refine range_of N _ (hp.length_eq.trans hl) ?_ fun x hx => hlt x (hp.mem_iff.mp hx)
    refine List.Pairwise.imp₂ (fun a b h1 h2 => ?_) hs (List.nodup_iff_pairwise_ne.mp hn')
    simp at h1; omega
  rw [← e]
  exact hp.symm
theorem Tab.perm {n : Nat} {gl : List Nat} (T : Tab n gl) : gl.Perm (List.range (2 ^ n)) := perm_range T.len T.nodup fun _ h => T.lt h
/-- the same of ints -/
theorem sorted_range {N : Nat} {l : List Nat} {ns : List Int} (hl : l.Perm (List.range N)) (hp : ns.Perm (l.map Int.ofNat)) (hs : ns.Pairwise (· ≤ ·)) : ns = (List.range N).map Int.ofNat := by
  refine List.Perm.eq_of_pairwise (le := fun a b : Int => a ≤ b) (fun a b _ _ h1 h2 => Int.le_antisymm h1 h2) hs ?_ (hp.trans (hl.map _))
  rw [List.pairwise_map]
  exact List.Pairwise.imp (fun {a b} h => by show (a : Int) ≤ (b : Int); omega) List.pairwise_lt_range
end KL

/-! KLGo -/
namespace KL
/-- the rows get these values, one behind another -/
def setRows : List Nat → List Nat → List Nat → List Nat
  | gl, r :: rs, v :: vs => setRows (gl.set r v) rs vs
  | gl, _, _ => gl
theorem setRows_len : ∀ (gl rs vs : List Nat), (setRows gl rs vs).length = gl.length
  | gl, [], _ => by cases ‹List Nat› <;> rfl
  | gl, r :: rs, [] => rfl
  | gl, r :: rs, v :: vs => by
    show (setRows (gl.set r v) rs vs).length = _
    rw [setRows_len, List.length_set]
theorem setRows_snoc : ∀ (gl rs vs : List Nat) (r v : Nat), rs.length = vs.length → setRows gl (rs ++ [r]) (vs ++ [v]) = (setRows gl rs vs).set r v
  | gl, [], [], r, v, _ => rfl
  | gl, x :: rs, y :: vs, r, v, h => by
    show setRows (gl.set x y) (rs ++ [r]) (vs ++ [v]) = (setRows (gl.set x y) rs vs).set r v
    exact setRows_snoc _ rs vs r v (by simpa using h)
  | gl, [], _ :: _, _, _, h => by simp at h
  | gl, _ :: _, [], _, _, h => by simp at h
theorem fn_set {gl : List Nat} {a b r : Nat} (h : a < gl.length) : fn (gl.set a b) r = if r = a then b else fn gl r := by
  unfold fn
  rw [List.getD_eq_getElem?_getD, List.getD_eq_getElem?_getD, List.getElem?_set]
  by_cases e : a = r
  · subst e; rw [if_pos rfl, if_pos h, if_pos rfl]; rfl
  · rw [if_neg e, if_neg (fun z => e z.symm)]
theorem setRows_out : ∀ (gl rs vs : List Nat) (r : Nat), (∀ x ∈ rs, x < gl.length) → r ∉ rs → fn (setRows gl rs vs) r = fn gl r
  | gl, [], vs, r, _, _ => by cases vs <;> rfl
  | gl, x :: rs, [], r, _, _ => rfl
  | gl, x :: rs, y :: vs, r, h, hr => by
    show fn (setRows (gl.set x y) rs vs) r = _
    rw [setRows_out (gl.set x y) rs vs r (fun z hz => by rw [List.length_set]; exact h z (by simp [hz])) (fun z => hr (by simp [z])), fn_set (h x (by simp)), if_neg (fun z => hr (by simp [z]))]
theorem setRows_in : ∀ (gl rs vs : List Nat) (i r v : Nat), (∀ x ∈ rs, x < gl.length) → rs.Nodup → rs[i]? = some r → vs[i]? = some v → fn (setRows gl rs vs) r = v
  | gl, [], vs, i, r, v, _, _, h, _ => by simp at h
  | gl, x :: rs, [], i, r, v, _, _, _, h => by simp at h
  | gl, x :: rs, y :: vs, 0, r, v, h, hn, h1, h2 => by
    simp at h1 h2
    subst h1 h2
    show fn (setRows (gl.set x y) rs vs) x = y
    rw [setRows_out _ _ _ _ (fun z hz => by rw [List.length_set]; exact h z (by simp [hz])) (List.nodup_cons.mp hn).1, fn_set (h x (by simp)), if_pos rfl]
  | gl, x :: rs, y :: vs, i + 1, r, v, h, hn, h1, h2 => by
    show fn (setRows (gl.set x y) rs vs) r = v
    exact setRows_in _ rs vs i r v (fun z hz => by rw [List.length_set]; exact h z (by simp [hz])) (List.nodup_cons.mp hn).2 (by simpa using h1) (by simpa using h2)
theorem nodup_ix {l : List Nat} (h : l.Nodup) {i j x : Nat} (h1 : l[i]? = some x) (h2 : l[j]? = some x) : i = j := by
  obtain ⟨a, ea⟩ := List.getElem?_eq_some_iff.mp h1
  obtain ⟨b, eb⟩ := List.getElem?_eq_some_iff.mp h2
  exact (List.getElem_inj h).mp (ea.trans eb.symm)
/-- a class laid anew -/
theorem Tab.laid {n : Nat} {gl : List Nat} (T : Tab n gl) {k : Nat} {vs : List Nat} (hp : vs.Perm (cls n k)) : Tab n (setRows gl (cls n k) vs) := by
  have hl : ∀ x ∈ cls n k, x < gl.length := fun x hx => by rw [T.len]; exact (mem_cls.mp hx).1
  have hn := cls_nodup n k
  have hvn : vs.Nodup := (hp.nodup_iff).mpr hn
  have hvl : vs.length = (cls n k).length := hp.length_eq
  have inn : ∀ r, r ∈ cls n k → ∃ i v, (cls n k)[i]? = some r ∧ vs[i]? = some v ∧ fn (setRows gl (cls n k) vs) r = v ∧ v < 2 ^ n ∧ wt v = k := fun r hr => by
    obtain ⟨i, hi⟩ := List.mem_iff_getElem?.mp hr
    have hlt : i < vs.length := by rw [hvl]; exact (List.getElem?_eq_some_iff.mp hi).1
    have hv : vs[i]? = some vs[i] := List.getElem?_eq_getElem hlt
    have hm := mem_cls.mp (hp.mem_iff.mp (List.mem_iff_getElem?.mpr ⟨i, hv⟩))
    exact ⟨i, _, hi, hv, setRows_in gl _ vs i r _ hl hn hi hv, hm.1, hm.2⟩
  have outn : ∀ r, r ∉ cls n k → fn (setRows gl (cls n k) vs) r = fn gl r := fun r hr => setRows_out gl _ vs r hl hr
  refine ⟨by rw [setRows_len]; exact T.len, fun r hr => ?_, fun x y hx hy e => ?_, fun r hr => ?_⟩
  · by_cases h : r ∈ cls n k
    · obtain ⟨i, v, _, _, e, h1, _⟩ := inn r h
      rw [e]; exact h1
    · rw [outn r h]; exact T.P.lt r hr
  · by_cases h1 : x ∈ cls n k
    · obtain ⟨i, v, a1, a2, a3, a4, a5⟩ := inn x h1
      by_cases h2 : y ∈ cls n k
      · obtain ⟨j, u, b1, b2, b3, b4, b5⟩ := inn y h2
        rw [a3, b3] at e
        subst e
        have := nodup_ix hvn a2 b2
        subst this
        rw [a1] at b1
        exact Option.some.inj b1
      · rw [a3, outn y h2] at e
        have := T.P.wt y hy
        rw [← e, a5] at this
        exact absurd (mem_cls.mpr ⟨hy, this.symm⟩) h2
    · by_cases h2 : y ∈ cls n k
      · obtain ⟨j, u, b1, b2, b3, b4, b5⟩ := inn y h2
        rw [b3, outn x h1] at e
        have := T.P.wt x hx
        rw [e, b5] at this
        exact absurd (mem_cls.mpr ⟨hx, this.symm⟩) h1
      · rw [outn x h1, outn y h2] at e
        exact T.P.inj x y hx hy e
  · by_cases h : r ∈ cls n k
    · obtain ⟨i, v, _, _, e, _, h2⟩ := inn r h
      rw [e, h2]; exact (mem_cls.mp h).2.symm
    · rw [outn r h]; exact T.P.wt r hr
/-- pops keep the lot -/
theorem perm_pop {vs left rows : List Nat} {j y : Nat} (hp : (vs ++ left).Perm rows) (hj : left[j]? = some y) : ((vs ++ [y]) ++ left.eraseIdx j).Perm rows := by
  obtain ⟨h, e⟩ := List.getElem?_eq_some_iff.mp hj
  have h1 : left.Perm (y :: left.eraseIdx j) := by
    rw [List.eraseIdx_eq_take_drop_succ]
    have hs : left = left.take j ++ (y :: left.drop (j + 1)) := by
      rw [← e, ← List.drop_eq_getElem_cons h, List.take_append_drop]
    conv => lhs; rw [hs]
    exact List.perm_middle
  rw [List.append_assoc]
  exact ((List.Perm.append_left vs h1).symm).trans hp
theorem perm_len {vs left rows : List Nat} (hp : (vs ++ left).Perm rows) : vs.length + left.length = rows.length := by
  have := hp.length_eq
  rwa [List.length_append] at this
end KL

/-! KLRight -/
namespace KL
variable {n b : Nat} {gl fr : List Nat}
theorem hg_0 : hg n gl fr 0 = gl ++ up n fr := by unfold hg two; simp
theorem hg_1 : hg n gl fr 1 = fr ++ up n gl := by unfold hg two; simp
theorem up_len (n : Nat) (l : List Nat) : (up n l).length = l.length := by unfold up; simp
theorem map_add0 (l : List Nat) (k : Nat) (h : k = 0) : l.map (fun x => x + k) = l := by subst h; simp
theorem hg_len (T : Tab n gl) (U : Tab n fr) (hb : b < 2) : (hg n gl fr b).length = 2 * 2 ^ n := by
  have h1 := T.len
  have h2 := U.len
  have : b = 0 ∨ b = 1 := by omega
  rcases this with rfl | rfl
  · rw [hg_0, List.length_append, up_len]; omega
  · rw [hg_1, List.length_append, up_len]; omega
theorem hg_kept (T : Tab n gl) (U : Tab n fr) (hb : b < 2) : ((hg n gl fr b).drop (b * 2 ^ n)).take (2 ^ n) = gl.map fun x => x + b * 2 ^ n := by
  have h1 := T.len
  have h2 := U.len
  have : b = 0 ∨ b = 1 := by omega
  rcases this with rfl | rfl
  · rw [hg_0, Nat.zero_mul, List.drop_zero, ← h1, List.take_left, map_add0 _ _ rfl]
  · have d : (fr ++ up n gl).drop (2 ^ n) = up n gl := by rw [← h2]; exact List.drop_left
    rw [hg_1, Nat.one_mul, d, List.take_of_length_le (by rw [up_len]; omega)]; rfl
theorem hg_free (T : Tab n gl) (U : Tab n fr) (hb : b < 2) : ((hg n gl fr b).drop ((1 - b) * 2 ^ n)).take (2 ^ n) = fr.map fun x => x + (1 - b) * 2 ^ n := by
  have h1 := T.len
  have h2 := U.len
  have : b = 0 ∨ b = 1 := by omega
  rcases this with rfl | rfl
  · have d : (gl ++ up n fr).drop (2 ^ n) = up n fr := by rw [← h1]; exact List.drop_left
    rw [hg_0, Nat.sub_zero, Nat.one_mul, d, List.take_of_length_le (by rw [up_len]; omega)]; rfl
  · rw [hg_1, Nat.zero_mul, List.drop_zero, ← h2, List.take_left, map_add0 _ _ rfl]
theorem fn_kept (T : Tab n gl) (U : Tab n fr) (hb : b < 2) {i : Nat} (hi : i < 2 ^ n) : fn (hg n gl fr b) (b * 2 ^ n + i) = fn gl i + b * 2 ^ n := by
  have : b = 0 ∨ b = 1 := by omega
  rcases this with rfl | rfl
  · rw [Nat.zero_mul, Nat.zero_add, Nat.add_zero]
    show fn (two n gl fr) i = _
    exact two_off T hi
  · rw [Nat.one_mul]
    show fn (two n fr gl) (2 ^ n + i) = _
    exact two_lit U T hi
theorem fn_free (T : Tab n gl) (U : Tab n fr) (hb : b < 2) {i : Nat} (hi : i < 2 ^ n) : fn (hg n gl fr b) ((1 - b) * 2 ^ n + i) = fn fr i + (1 - b) * 2 ^ n := by
  have : b = 0 ∨ b = 1 := by omega
  rcases this with rfl | rfl
  · rw [Nat.one_mul]
    show fn (two n gl fr) (2 ^ n + i) = _
    exact two_lit T U hi
  · rw [Nat.zero_mul, Nat.zero_add, Nat.add_zero]
    show fn (two n fr gl) i = _
    exact two_off U hi
theorem tab_ext (T : Tab n gl) (U : Tab n fr) (h : ∀ i, i < 2 ^ n → fn fr i = fn gl i) : fr = gl := by
  refine List.ext_getElem? fun i => ?_
  by_cases hi : i < 2 ^ n
  · rw [T.get hi, U.get hi, h i hi]
  · rw [List.getElem?_eq_none (by rw [U.len]; omega), List.getElem?_eq_none (by rw [T.len]; omega)]
end KL

/-! KA -/
set_option Elab.async false
set_option linter.all false
set_option maxRecDepth 100000
set_option maxHeartbeats 4000000
/-! The text by places; a def by its name; what is global. -/
namespace K6
open PySem PySem.Spec PyProof.Rows L2
def top (i : Nat) : Stmt := PySem.Challenge.pw_keptlamps_k61_whole_helped_tables.main.body.getD i (.Pass ⟨0, 0, 0, 0⟩)
section
variable {P : Program} {w : World} {K : PySem.W.Frag} {mg : Str → Option Value} {base : Heap}
/-- a def that may be called by its name -/
structure Cal (P : Program) (w : World) (K : PySem.W.Frag) (mg : Str → Option Value) (base : Heap) (k : Nat) (x : Str) (sp : Sp) : Prop where
  ex : ∃ (f : Addr) (fd : FuncData) (ps : List Str), FnOk P w K mg base (L2.CX P w) k f fd ps sp ∧ mg x = some (.ref f) ∧ PySem.W.keepIn K (.ref f) = true ∧ Binds K fd ps []
/-- a def of the text, as the top has left it -/
structure Df (K : PySem.W.Frag) (mg : Str → Option Value) (x : Str) (st : Stmt) : Prop where
  ex : ∃ (f : Addr) (fd : FuncData), Fun K x x st f fd ∧ mg x = some (.ref f)
/-- how arguments bind, by the form of the def -/
def BindsBy (x : Str) (st : Stmt) (ps : List Str) : Prop := ∀ (kV doc pm : Value) (an : Option Addr) (cdv ct : Value) (us : List Value), us.length = ps.length → bindArgs (PySem.W.fnOf x x (defArgs st) (defBody st) (defScope st) .none kV doc pm an cdv ct) ⟨us, []⟩ = pure (ps.zip us)
/-- a def whose body lets nothing out -/
theorem cal {x : Str} {st : Stmt} {N ps : List Str} {k : Nat} {sp : Sp} (D : Df K mg x st) (hb : BindsBy x st ps) (S : FnScope N ps (defScope st)) (len : ∀ vs H Q E, sp vs H Q E → vs.length = ps.length)
    (hbody : ∀ (f : Addr) (cdv : Value) (A : Around) (outer : List Env) (s : Shared) (H : Hp) (vs : List V) (Q : VK) (E : XK), Room k (A.deeper (envOfC x (defScope st) s.heap.objs.size f cdv)) → sp vs H Q E →
      ∃ t, PSs (cxOf (L2.CX P w) P w K mg base N x (defScope st) f cdv A outer s H E).nox (defBody st) t ∧ t { nx := fun _ H' => Q .non H', rt := Q } (start N vs) H) : Cal P w K mg base (k + 1) x sp := by
  obtain ⟨f, fd, F, g⟩ := D.ex
  refine ⟨f, fd, ps, ?_, g, F.kp, F.binds hb⟩
  refine F.okX S len fun cdv A outer s H vs Q E hr hsp => ?_
  obtain ⟨t, h, q⟩ := hbody f cdv A outer s H vs Q E hr hsp
  exact ⟨t, h.nox, q⟩
/-- a def that may raise -/
theorem calX {x : Str} {st : Stmt} {N ps : List Str} {k : Nat} {sp : Sp} (D : Df K mg x st) (hb : BindsBy x st ps) (S : FnScope N ps (defScope st)) (len : ∀ vs H Q E, sp vs H Q E → vs.length = ps.length)
    (hbody : ∀ (f : Addr) (cdv : Value) (A : Around) (outer : List Env) (s : Shared) (H : Hp) (vs : List V) (Q : VK) (E : XK), Room k (A.deeper (envOfC x (defScope st) s.heap.objs.size f cdv)) → sp vs H Q E →
      ∃ t, PSs (cxOf (L2.CX P w) P w K mg base N x (defScope st) f cdv A outer s H E) (defBody st) t ∧ t { nx := fun _ H' => Q .non H', rt := Q } (start N vs) H) : Cal P w K mg base (k + 1) x sp := by
  obtain ⟨f, fd, F, g⟩ := D.ex
  exact ⟨f, fd, ps, F.okX S len fun cdv A outer s H vs Q E hr hsp => hbody f cdv A outer s H vs Q E hr hsp, g, F.kp, F.binds hb⟩
theorem Cal.mono {x : Str} {j k : Nat} {sp : Sp} (c : Cal P w K mg base j x sp) (h : j ≤ k) : Cal P w K mg base k x sp := by
  obtain ⟨f, fd, ps, F, g⟩ := c.ex
  exact ⟨f, fd, ps, F.mono h, g⟩
end
section
variable {X : Cx} {k j : Nat} {x : Str} {sp : Sp} {p pos : Pos} {e : Expr} {es : List Expr} {t : TA}
/-- f(e, ..), nothing raised -/
theorem pc (c : Cal X.prog X.w X.K X.mg X.base k x sp) (hr : Room j X.A) (hk : k ≤ j) (hg : Gl X x) (ha : PA X (e :: es) t)
    (hdb : (x == ("__debug__" : Str)) = false := by decide) (he : starEach (e :: es) X.env = (false, eval e X.env) :: starEach es X.env := by rfl) (hpl : (backTo pos (starEach es X.env)).any (·.1) = false := by rfl) :
    PE X (.Call (.Name x p) (e :: es) [] pos) (tCall sp [] E0 t) := by
  obtain ⟨f, fd, ps, F, g, kp, b⟩ := c.ex
  exact pe_call F (hr.mono hk) hg g kp b .nil passL ha hdb he hpl
/-- f(e, ..), what it raises is wished for by W -/
theorem pcx {W : WX} (c : Cal X.prog X.w X.K X.mg X.base k x sp) (tk : Takes X W) (hr : Room j X.A) (hk : k ≤ j) (hg : Gl X x) (ha : PA X (e :: es) t)
    (hdb : (x == ("__debug__" : Str)) = false := by decide) (he : starEach (e :: es) X.env = (false, eval e X.env) :: starEach es X.env := by rfl) (hpl : (backTo pos (starEach es X.env)).any (·.1) = false := by rfl) :
    PE X (.Call (.Name x p) (e :: es) [] pos) (tCallS sp (WE W) t) := by
  obtain ⟨f, fd, ps, F, g, kp, b⟩ := c.ex
  exact pe_callS F (hr.mono hk) hg g kp b (fun σ => passAt tk σ) ha hdb he hpl
end
end K6

/-! KB -/
set_option Elab.async false
set_option linter.all false
set_option maxRecDepth 100000
set_option maxHeartbeats 4000000
namespace K6
open PySem PySem.Spec PyProof.Rows L2
abbrev sIsInteger : Stmt := top 8
abbrev sIsWithin : Stmt := top 9
abbrev sIsList : Stmt := top 10
abbrev sWeight : Stmt := top 16
/-- what isinstance(x, int) and not isinstance(x, bool) gives -/
def IsV (K : PySem.W.Frag) (H : Hp) (x : V) (r : Bool) : Prop := ∃ (t : Value) (b1 b2 : Bool), TyX K H x t ∧ PySem.W.kitOne K t (.type "int") = some b1 ∧ PySem.W.kitOne K t (.type "bool") = some b2 ∧ r = (b1 && !b2)
theorem isv_int {K : PySem.W.Frag} {H : Hp} (i : Int) : IsV K H (.int i) true := ⟨_, true, false, .base (.int i), kit_ty (by decide +kernel), kit_ty (by decide +kernel), rfl⟩
theorem isv_bl {K : PySem.W.Frag} {H : Hp} (b : Bool) : IsV K H (.bl b) false := ⟨_, true, true, .base (.bl b), kit_ty (by decide +kernel), kit_ty (by decide +kernel), rfl⟩
theorem isv_non {K : PySem.W.Frag} {H : Hp} : IsV K H .non false := ⟨_, false, false, .base .non, kit_ty (by decide +kernel), kit_ty (by decide +kernel), rfl⟩
theorem isv_str {K : PySem.W.Frag} {H : Hp} (z : Str) : IsV K H (.str z) false := ⟨_, false, false, .base (.str z), kit_ty (by decide +kernel), kit_ty (by decide +kernel), rfl⟩
theorem isv_lst {K : PySem.W.Frag} {H : Hp} {a : Addr} {xs : List V} (h : H a = some (.lst xs)) : IsV K H (.ref a) false := ⟨_, false, false, .base (.lst h), kit_ty (by decide +kernel), kit_ty (by decide +kernel), rfl⟩
theorem isv_dK {K : PySem.W.Frag} {H : Hp} {a : Addr} {kvs : List (Key × V)} (h : H a = some (.dK kvs)) : IsV K H (.ref a) false := ⟨_, false, false, .base (.dK h), kit_ty (by decide +kernel), kit_ty (by decide +kernel), rfl⟩
def spIsInt (K : PySem.W.Frag) : Sp := fun vs H Q _ => ∃ (x : V) (r : Bool), vs = [x] ∧ IsV K H x r ∧ Q (.bl r) H
section
variable {P : Program} {w : World} {K : PySem.W.Frag} {mg : Str → Option Value} {base : Heap}
theorem scIsInteger : FnScope ["value"] ["value"] (defScope sIsInteger) := ⟨rfl, rfl, rfl, by decide +kernel, rfl, by decide +kernel, by decide +kernel⟩
theorem ok_is_integer (D : Df K mg "is_integer" sIsInteger) (m1 : mg "isinstance" = none) (m2 : mg "int" = none) (m3 : mg "bool" = none) : Cal P w K mg base 1 "is_integer" (spIsInt K) := by
  refine cal (ps := ["value"]) D (fun _ _ _ _ _ _ us hl => match us, hl with | [_], _ => rfl) scIsInteger (fun vs H Q E h => ?_) (fun f cdv A outer s H vs Q E hr h => ?_)
  · obtain ⟨x, r, rfl, _⟩ := h; rfl
  · obtain ⟨x, r, rfl, ⟨t, b1, b2, ty, e1, e2, rfl⟩, k⟩ := h
    refine ⟨_, pss_one (ps_ret (pe_and (pe_callB call_isi (by rfl) m1 (by decide +kernel) (pa_cons (pv 0) (pa_cons (pe_bltn (v := .ty "int") (by rfl) m2 (by decide +kernel) rfl) pa_nil)))
      (pe_one (pe_not (pe_callB call_isi (by rfl) m1 (by decide +kernel) (pa_cons (pv 0) (pa_cons (pe_bltn (v := .ty "bool") (by rfl) m3 (by decide +kernel) rfl) pa_nil))))))), ?_⟩
    refine ⟨_, rfl, x, .ty "int", t, _, b1, rfl, .ty _, ty, e1, b1, rfl, ?_⟩
    cases b1 with
    | false => exact iteF k
    | true =>
      refine iteT ?_
      exact ⟨_, rfl, x, .ty "bool", t, _, b2, rfl, .ty _, ty, e2, b2, rfl, k⟩
end
end K6

/-! KC -/
set_option Elab.async false
set_option linter.all false
set_option maxRecDepth 100000
set_option maxHeartbeats 4000000
namespace K6
open PySem PySem.Spec L2 KL
/-- the built-ins that no name of the text hides -/
structure Bt (mg : Str → Option Value) : Prop where
  isinstance : mg "isinstance" = none
  int : mg "int" = none
  bool : mg "bool" = none
  list : mg "list" = none
  tuple : mg "tuple" = none
  len : mg "len" = none
  all : mg "all" = none
  range : mg "range" = none
  sum : mg "sum" = none
  enumerate : mg "enumerate" = none
  zip : mg "zip" = none
  sorted : mg "sorted" = none
  min : mg "min" = none
  max : mg "max" = none
  abs : mg "abs" = none
  repr : mg "repr" = none
/-- numbers as values -/
abbrev vN (l : List Nat) : List V := l.map fun n : Nat => V.int (n : Int)
theorem vN_get {l : List Nat} {i : Nat} {y : V} (h : (vN l)[i]? = some y) : ∃ n, l[i]? = some n ∧ y = .int (n : Int) := by
  rw [List.getElem?_map] at h
  cases e : l[i]? with
  | none => rw [e] at h; cases h
  | some n => rw [e] at h; exact ⟨n, rfl, (Option.some.inj h).symm⟩
theorem vN_at {l : List Nat} {i n : Nat} (h : l[i]? = some n) : (vN l)[i]? = some (.int (n : Int)) := by
  rw [List.getElem?_map, h]; rfl
theorem vN_len (l : List Nat) : (vN l).length = l.length := List.length_map _
/-- a new tuple, a new list: what is asked behind it -/
abbrev NewT (H : Hp) (xs : List V) (Q : VK) : Prop := ∀ (H' : Hp) (p : Addr), Same H H' → H p = none → H' p = some (.tup xs) → Q (.ref p) H'
abbrev NewL (H : Hp) (xs : List V) (Q : VK) : Prop := ∀ (H' : Hp) (p : Addr), Same H H' → H p = none → H' p = some (.lst xs) → Q (.ref p) H'
theorem sm_upd {H H1 : Hp} {p : Addr} {o : HO} (s : Same H H1) (h : H1 p = none) : Same H (upd H1 p o) := fun b u e => by
  have e1 := s b u e
  rw [upd_ne (ne_of_none e1 h)]; exact e1
/-- the object at p, new since H, is written -/
theorem sm_set {H H1 : Hp} {p : Addr} {o : HO} (s : Same H H1) (h : H p = none) : Same H (L2.upd H1 p o) := fun b u e => by
  rw [upd_ne (ne_of_none e h)]; exact s b u e

theorem shl1 {n : Nat} (h : n ≤ 8) : (1 : Int) * 2 ^ ((n : Int)).toNat = ((2 ^ n : Nat) : Int) := by
  rw [Int.one_mul, Int.toNat_natCast, Int.natCast_pow]; rfl
theorem pow8 {n : Nat} (h : n ≤ 8) : 1 ≤ 2 ^ n ∧ 2 ^ n ≤ 256 := ⟨Nat.one_le_two_pow, by have := Nat.pow_le_pow_right (n := 2) (by decide) h; omega⟩
theorem in62 {N : Nat} (h : N ≤ 100000) : -(2 ^ 62) ≤ ((N : Nat) : Int) ∧ ((N : Nat) : Int) < 2 ^ 62 := by omega

def spIsWithin (K : PySem.W.Frag) : Sp := fun vs H Q _ => ∃ (x : V) (a b : Int), vs = [x, .int a, .int b] ∧ ((∃ i, x = .int i ∧ Q (.bl (decide (a ≤ i) && decide (i ≤ b))) H) ∨ (IsV K H x false ∧ Q (.bl false) H))
def spIsList (K : PySem.W.Frag) : Sp := fun vs H Q _ => ∃ (a : Addr) (xs : List V), vs = [.ref a] ∧ (H a = some (.lst xs) ∨ H a = some (.tup xs)) ∧ ∀ H', Same H H' → Q (.bl true) H'
def spWt : Sp := fun vs H Q _ => ∃ r : Nat, vs = [.int r] ∧ r < 512 ∧ Q (.int (wt r)) H
abbrev sClass : Stmt := top 17
def spClass : Sp := fun vs H Q _ => ∃ n k : Nat, vs = [.int n, .int k] ∧ n ≤ 8 ∧ NewT H (vN (cls n k)) Q
section
variable {P : Program} {w : World} {K : PySem.W.Frag} {mg : Str → Option Value} {base : Heap}
theorem scIsWithin : FnScope ["value", "least", "most"] ["value", "least", "most"] (defScope sIsWithin) := ⟨rfl, rfl, rfl, by decide +kernel, rfl, by decide +kernel, by decide +kernel⟩
theorem ok_is_within (D : Df K mg "is_within" sIsWithin) (c1 : Cal P w K mg base 1 "is_integer" (spIsInt K)) : Cal P w K mg base 2 "is_within" (spIsWithin K) := by
  refine cal (ps := ["value", "least", "most"]) D (fun _ _ _ _ _ _ us hl => match us, hl with | [_, _, _], _ => rfl) scIsWithin (fun vs H Q E h => ?_) (fun f cdv A outer s H vs Q E hr h => ?_)
  · obtain ⟨x, a, b, rfl, _⟩ := h; rfl
  · obtain ⟨x, a, b, rfl, k⟩ := h
    refine ⟨_, pss_cons (ps_if (pt_not (pt_val (pc c1 hr (by decide) (by rfl) (pa_cons (pv 0) pa_nil)))) (pss_one (ps_ret pe_bl)) pss_nil)
      (pss_one (ps_ret (pe_and (pe_or (pe_cmp (pc_isN (pv 1)) rfl) (pe_one (pe_cmp (pc_le (pv 1) (pv 0)) rfl))) (pe_one (pe_or (pe_cmp (pc_isN (pv 2)) rfl) (pe_one (pe_cmp (pc_le (pv 0) (pv 2)) rfl))))))), ?_⟩
    rcases k with ⟨i, rfl, k⟩ | ⟨iv, k⟩
    · refine ⟨_, rfl, _, true, rfl, isv_int i, true, rfl, iteF ?_⟩
      refine ⟨_, rfl, _, rfl, iteF ?_⟩
      refine ⟨_, rfl, _, rfl, _, _, rfl, rfl, _, rfl, ?_⟩
      refine ite2 (fun e => ?_) (fun e => ?_)
      · have e' : decide (a ≤ i) = true := e
        rw [e', Bool.true_and] at k
        exact ⟨_, rfl, _, rfl, iteF ⟨_, rfl, _, rfl, _, _, rfl, rfl, k⟩⟩
      · have e' : decide (a ≤ i) = false := Bool.eq_false_iff.mpr e
        rw [e', Bool.false_and] at k
        exact k
    · exact ⟨_, rfl, _, false, rfl, iv, false, rfl, iteT k⟩
theorem scIsList : FnScope ["value"] ["value"] (defScope sIsList) := ⟨rfl, rfl, rfl, by decide +kernel, rfl, by decide +kernel, by decide +kernel⟩
theorem ok_is_list (D : Df K mg "is_list" sIsList) (B : Bt mg) : Cal P w K mg base 1 "is_list" (spIsList K) := by
  refine cal (ps := ["value"]) D (fun _ _ _ _ _ _ us hl => match us, hl with | [_], _ => rfl) scIsList (fun vs H Q E h => ?_) (fun f cdv A outer s H vs Q E hr h => ?_)
  · obtain ⟨x, a, rfl, _⟩ := h; rfl
  · obtain ⟨a, xs, rfl, ha, k⟩ := h
    refine ⟨_, pss_one (ps_ret (pe_callB call_isiT (by rfl) B.isinstance (by decide +kernel) (pa_cons (pv 0) (pa_cons (pe_tup (pa_cons (pe_bltn (v := .ty "list") (by rfl) B.list (by decide +kernel) rfl) (pa_cons (pe_bltn (v := .ty "tuple") (by rfl) B.tuple (by decide +kernel) rfl) pa_nil))) pa_nil)))), ?_⟩
    refine ⟨_, rfl, (by show 2 ≤ sizeLine; decide), fun p hp => ?_⟩
    have hS : Same H (upd H p (.tup [.ty "list", .ty "tuple"])) := sm_upd (Same.refl H) hp
    rcases ha with ha | ha
    · exact ⟨_, p, _, _, [.type "list", .type "tuple"], true, rfl, upd_same, .cons (.ty _) (.cons (.ty _) .nil), .base (.lst (hS _ _ ha)), kitAny_cons (kit_ty (b := "list") (r := true) (by decide +kernel)) (fun q => Bool.noConfusion q) (fun _ => rfl), k _ hS⟩
    · exact ⟨_, p, _, _, [.type "list", .type "tuple"], true, rfl, upd_same, .cons (.ty _) (.cons (.ty _) .nil), .base (.tup (hS _ _ ha)), kitAny_cons (kit_ty (b := "list") (r := false) (by decide +kernel)) (fun _ => kitAny_cons (kit_ty (b := "tuple") (r := true) (by decide +kernel)) (fun q => Bool.noConfusion q) (fun _ => rfl)) (fun q => Bool.noConfusion q), k _ hS⟩
theorem scWeight : FnScope ["row", "found"] ["row"] (defScope sWeight) := ⟨rfl, rfl, rfl, by decide +kernel, rfl, by decide +kernel, by decide +kernel⟩
def mu1 (σ : St) : Nat := match σ with
  | some (.int q) :: _ => q.toNat
  | _ => 0
theorem ok_weight_in (D : Df K mg "weight_in" sWeight) : Cal P w K mg base 1 "weight_in" spWt := by
  refine cal (ps := ["row"]) D (fun _ _ _ _ _ _ us hl => match us, hl with | [_], _ => rfl) scWeight (fun vs H Q E h => ?_) (fun f cdv A outer s H vs Q E hr h => ?_)
  · obtain ⟨x, rfl, _⟩ := h; rfl
  · obtain ⟨r, rfl, hlt, k⟩ := h
    refine ⟨_, pss_cons (ps_set (i := 1) scWeight.nd rfl (Or.inl rfl) pe_int)
      (pss_cons (ps_while PassesOwn.never (pt_cmpR op_gt (pv 0) pe_int (nomark _))
        (pss_one (ps_par (i := 1) (j := 0) (by rfl) scWeight.nd rfl rfl (by decide) rfl rfl (pa_cons (pe_op op_add (pv 1) (pe_op op_mod (pv 0) pe_int)) (pa_cons (pe_op op_fdiv (pv 0) pe_int) pa_nil)) (by rfl))))
      (pss_one (ps_ret (pv 1)))), ?_⟩
    refine while_by (fun σ H' => H' = H ∧ ∃ f q c : Nat, σ = [some (.int q), some (.int c)] ∧ q < 2 ^ f ∧ c + wtF f q = wt r) (fun σ _ => mu1 σ) ⟨rfl, 9, r, 0, rfl, hlt, Nat.zero_add _⟩ ?_ ?_
    · rintro σ H' ⟨rfl, f, q, c, rfl, hq, hw⟩
      refine ⟨_, rfl, _, _, rfl, rfl, _, rfl, ?_⟩
      refine ite2 (fun e => ?_) (fun e => ?_)
      · have h0 : 0 < q := by have := of_decide_eq_true e; omega
        refine ⟨_, rfl, _, rfl, _, _, rfl, rfl, (by show (0 : Int) < 2; decide), _, _, rfl, rfl, _, rfl, _, _, rfl, rfl, ⟨by decide, by decide⟩, _, _, rfl, ?_⟩
        cases f with
        | zero => simp at hq; omega
        | succ f =>
          refine ⟨⟨rfl, f, q / 2, c + q % 2, ?_, ?_, ?_⟩, ?_⟩
          · show [some (V.int ((q : Int) / 2)), some (V.int ((c : Int) + (q : Int) % 2))] = _
            rw [show ((q : Int) / 2) = ((q / 2 : Nat) : Int) by omega, show ((c : Int) + (q : Int) % 2) = ((c + q % 2 : Nat) : Int) by omega]
          · rw [Nat.pow_succ] at hq; omega
          · have : wtF (f + 1) q = q % 2 + wtF f (q / 2) := rfl
            omega
          · show ((q : Int) / 2).toNat < ((q : Int)).toNat
            omega
      · have h0 : q = 0 := by
          have : ¬ (0 < (q : Int)) := fun z => e (decide_eq_true z)
          omega
        subst h0
        rw [wtF_zero, Nat.add_zero] at hw
        rw [← hw] at k
        exact ⟨_, rfl, k⟩
    · rintro σ H' Q' Q'' hm ⟨v, e, z, y, e1, e2, c, e3, q⟩
      exact ⟨v, e, z, y, e1, e2, c, e3, hm _ _ q⟩
theorem scClass : FnScope ["lamps", "weight", "row"] ["lamps", "weight"] (defScope sClass) := ⟨rfl, rfl, rfl, by decide +kernel, rfl, by decide +kernel, by decide +kernel⟩
theorem ok_class_in (D : Df K mg "class_in" sClass) (B : Bt mg) (c1 : Cal P w K mg base 1 "weight_in" spWt) : Cal P w K mg base 2 "class_in" spClass := by
  refine cal (ps := ["lamps", "weight"]) D (fun _ _ _ _ _ _ us hl => match us, hl with | [_, _], _ => rfl) scClass (fun vs H Q E h => ?_) (fun f cdv A outer s H vs Q E hr h => ?_)
  · obtain ⟨x, y, rfl, _⟩ := h; rfl
  · obtain ⟨n, wk, rfl, hn, k⟩ := h
    refine ⟨_, pss_one (ps_ret (pe_callTy call_tuple_of (by rfl) B.tuple (by decide +kernel) (pa_cons (pe_lc (own := [("row", 2)]) (g := gName 2) (by rfl) scClass.nd (pi_range1 (by rfl) B.range (pa_cons (pe_op op_shl pe_int (pv 0)) pa_nil))
      (blkOk_by (own := [("row", 2)]) (N := ["lamps", "weight", "row"]) (sc := defScope sClass) (by decide +kernel)) (fun _ _ _ _ _ => pg_name (i := 2) scClass.nd rfl (Or.inl rfl))
      (fun _ _ _ _ _ => pts_one (pt_cmpR op_eq (pc c1 hr (by decide) (by rfl) (pa_cons (pv 2) pa_nil)) (pv 1) (nomark _))) (fun _ _ _ _ _ => pv 2)) pa_nil))), ?_⟩
    have hp := (pow8 hn).2
    have h62 := in62 (N := 2 ^ n) (by omega)
    refine ⟨_, rfl, _, _, rfl, rfl, ⟨Int.natCast_nonneg _, by omega, by decide⟩, _, congrArg (fun z => [V.int z]) (shl1 hn), h62.1, h62.2, fun D hD => ?_⟩
    rw [Int.toNat_natCast]
    refine lc_range (lo := 0) (n := 2 ^ n) (fun i H' => Same H H' ∧ H' D = some (.lst (vN ((List.range i).filter fun r => decide (wt r = wk))))) ⟨sm_upd (Same.refl H) hD, upd_same⟩ ?_ ?_
    · rintro i H' hi ⟨sm, hd⟩
      refine ⟨rfl, _, rfl, i, by show [V.int (0 + (i : Int))] = _; rw [Int.zero_add], by omega, _, rfl, rfl, _, rfl, ?_⟩
      have er : (List.range (i + 1)).filter (fun r => decide (wt r = wk)) = (List.range i).filter (fun r => decide (wt r = wk)) ++ (if wt i = wk then [i] else []) := by
        rw [List.range_succ, List.filter_append, List.filter_cons]
        by_cases e : wt i = wk <;> simp [e]
      refine ite2 (fun e => ?_) (fun e => ?_)
      · have e' : wt i = wk := by have := of_decide_eq_true e; injection this with this; omega
        rw [if_pos e'] at er
        refine ⟨_, rfl, _, hd, small1000 (by rw [vN_len]; have := List.length_filter_le (fun r => decide (wt r = wk)) (List.range i); rw [List.length_range] at this; omega), sm_set sm hD, ?_⟩
        rw [upd_same, er, Int.zero_add]
        simp
      · have e' : ¬ wt i = wk := fun z => e (decide_eq_true (by rw [z]))
        rw [if_neg e', List.append_nil] at er
        exact ⟨sm, by rw [er]; exact hd⟩
    · rintro H' ⟨sm, hd⟩
      refine ⟨D, _, rfl, .inl ⟨SqL.of hd, fun p hp' => ?_⟩⟩
      exact k _ p (sm_upd sm hp') (sm.free hp') upd_same
end
end K6

/-! KR1 -/
set_option Elab.async false
set_option linter.all false
set_option maxRecDepth 100000
set_option maxHeartbeats 4000000
/-! Further rules: enumerate of a tuple. -/
namespace K6
open PySem PySem.Spec L2
section
open AutoSeq1 (wpAny_loadPart')
theorem meets_enumerate_newT (l : Addr) (items : Array Value) (n : Nat) (dct : Option Addr) (sl : Array (Option Value)) :
    Meets (Builtin.«enumerate.__new__» ⟨[.type "enumerate", .ref l], []⟩) (fun _ R s => s.heap.get? l = some { cls := .type "tuple", dict := dct, data := .seq items n, slots := sl } ∧
      R (.ok (.ret (.ref (s.heap.push { cls := .type "tuple_iterator", data := .fields #[.ref l, .int 0 0] }).objs.size)))
        { s with heap := (s.heap.push { cls := .type "tuple_iterator", data := .fields #[.ref l, .int 0 0] }).push { cls := .type "enumerate", data := .fields #[.none, .bool false, .ref s.heap.objs.size, rawInt 0, .none, .none] } }) :=
  .of_wp fun prog w A R s h => by
    obtain ⟨hp, g, d, tk, os⟩ := s; obtain ⟨hl, h⟩ := h
    have hsub := sub_enumerate
    have hL : Heap.IsTuple (Shared.heap ⟨hp, g, d, tk, os⟩) l items := ⟨_, hl, rfl, n, rfl⟩
    wp_walk using wpAny_loadPart' hl
    refine wpAny_stack_any fun st => wpAny_pure ?_
    split
    · rename_i c _ _ _ _ _
      cases (c == Value.type "enumerate")
      · wp_walk using wpAny_loadPart' hl, wpAny_pyIter_tuple hL
        exact ⟨_, rfl, h⟩
      · wp_walk using wpAny_loadPart' hl, wpAny_pyIter_tuple hL
        exact ⟨_, rfl, h⟩
    · wp_walk using wpAny_loadPart' hl, wpAny_pyIter_tuple hL
      exact ⟨_, rfl, h⟩
end
section
variable {prog : Program} {w : World} {A : Around} {E : Value → Shared → Prop} {s : Shared}
theorem call_enumerate_tuple {l : Addr} {items : Array Value} {Q : Value → Shared → Prop} (hL : s.heap.IsTuple l items)
    (h : ∀ h', IsEnum h' (s.heap.objs.size + 1) s.heap.objs.size 0 .none → h'.IsTupleIter s.heap.objs.size l 0 → h'.objs.size = s.heap.objs.size + 2 →
      (∀ b o, s.heap.get? b = some o → h'.get? b = some o) → Q (.ref (s.heap.objs.size + 1)) { s with heap := h' }) :
    wpAny (model prog w) A (call (.type "enumerate") [.ref l]) Q E s := by
  obtain ⟨⟨c, dct, dt, sl⟩, hl, hc, n, hd⟩ := hL
  replace hc : c = .type "tuple" := hc
  replace hd : dt = .seq items n := hd
  subst hc hd
  refine callType_new F.called_enumerate (by decide) (F.typeCall_enumerate_1 _) (F.newCall_enumerate_1 _) (fun obj => F.args_object_init_2 obj _) F.entry_enumerate_new
    (meets_enumerate_newT l items n dct sl) ⟨hl, ?_⟩
  have hz : (s.heap.push { cls := .type "tuple_iterator", data := .fields #[.ref l, .int 0 0] }).objs.size = s.heap.objs.size + 1 := Heap.size_push ..
  show _ ∧ _
  rw [hz]
  have he : IsEnum ((s.heap.push { cls := .type "tuple_iterator", data := .fields #[.ref l, .int 0 0] }).push
      { cls := .type "enumerate", data := .fields #[.none, .bool false, .ref s.heap.objs.size, rawInt 0, .none, .none] }) (s.heap.objs.size + 1) s.heap.objs.size 0 .none := by
    have := Heap.get?_push_size (s.heap.push { cls := .type "tuple_iterator", data := .fields #[.ref l, .int 0 0] })
      (o := { cls := .type "enumerate", data := .fields #[.none, .bool false, .ref s.heap.objs.size, rawInt 0, .none, .none] }) rfl
    rw [hz] at this; exact this
  refine ⟨⟨_, he, rfl⟩, h _ he ⟨_, Heap.get?_push_of_some _ (Heap.get?_push_size _ rfl), rfl, rfl⟩ (by rw [Heap.size_push, hz]) fun b o x => Heap.get?_push_of_some _ (Heap.get?_push_of_some _ x)⟩
end
/-- the tuple at a, each item in a new pair -/
def IteT (K : PySem.W.Frag) (a : Addr) : It :=
  ⟨fun i H => ∃ (xs : List V) (x : V), SqT K H a xs ∧ xs[i]? = some x, fun i H v H' => ∃ T x, v = .ref T ∧ H T = none ∧ H' = upd H T (.tup [.int (i : Nat), x]) ∧ ∀ xs, SqT K H a xs → xs[i]? = some x, fun i H => ∃ xs : List V, SqT K H a xs ∧ xs.length = i⟩
theorem turn_enumT {P : Program} {w : World} {K : PySem.W.Frag} {elts : List Expr} {kk : Nat} {tpos : Pos} (a e it : Addr) :
    Turn P w K (.Tuple elts kk tpos) (IteT K a) [e, it] e (fun i h => (∃ old, IsEnum h e it ((i : Nat) : Int) old) ∧ h.IsTupleIter it a i ∧ e ≠ it) where
  mem := by simp
  obj := fun i h st b hb => by
    obtain ⟨⟨old, he⟩, ⟨o, ho, hc, hd⟩, _⟩ := st
    have e' : b = e ∨ b = it := by simpa using hb
    rcases e' with z | z
    · rw [z]; exact ⟨_, he, fun v q => nomatch q⟩
    · rw [z]; exact ⟨o, ho, fun v q => by rw [hd] at q; cases q⟩
  keep := fun i h h' st k => let ⟨⟨old, he⟩, hi, hne⟩ := st; ⟨⟨old, k e (by simp) _ he⟩, hi.at fun o q => k it (by simp) o q, hne⟩
  item := by
    intro X hP hw hK hc i pins s σ H E I hf st hg
    subst hP hw hK
    obtain ⟨⟨old, he⟩, hit, hne⟩ := st
    obtain ⟨xs, x, hq, hx⟩ := hg
    obtain ⟨its, rv, p, hz⟩ := I.tuple hq
    have hT0 : s.heap.IsTuple a its.toArray := p
    obtain ⟨u, hu, ru⟩ := rv.get hx
    have hel : e < s.heap.objs.size := Heap.lt_size he
    have hil : it < s.heap.objs.size := by obtain ⟨_, q, _⟩ := hit; exact Heap.lt_size q
    have hai : a ≠ it := fun z => by
      obtain ⟨o1, q1, c1, _⟩ := hit
      obtain ⟨o2, q2, c2, _⟩ := hT0
      rw [z, q1] at q2; cases q2; rw [c1] at c2; exact absurd (Value.type.inj c2) (by decide)
    have hae : e ≠ a := fun z => by
      obtain ⟨o2, q2, c2, _⟩ := hT0
      have he' : s.heap.get? e = some _ := he
      rw [z, q2] at he'; cases he'; exact absurd (Value.type.inj c2) (by decide)
    have hlt : i < its.toArray.size := by
      have := (List.getElem?_eq_some_iff.mp hu).1
      simpa using this
    refine wpAny_pyNext_enum_itemC (Draws.tuple (A := X.A.in1) (I.ok.hd hc) it a hai its.toArray) he ⟨hit, hT0⟩ hlt hne (by simp [hne, hae]) fun x' h' tk hx' ho hst hT hsz hk => ?_
    have ex : x' = u := by
      have h1 : its.toArray[i]? = some x' := hx'
      have h2 : its[i]? = some x' := by simpa using h1
      rw [hu] at h2
      exact (Option.some.inj h2).symm
    subst ex
    refine ⟨_, rfl, wpAny_letOwnedTupleGo_enum (s := { s with heap := h', toks := tk + 1 }) ho fun h'' he' sb => ?_⟩
    have hT2 : h''.get? s.heap.objs.size = some { cls := .type "tuple", data := .seq #[.int i tk, x'] } := (sb.2 _ (Nat.ne_of_gt hel)).trans hT
    have new : ObjOk X.prog X.w (upd H s.heap.objs.size (.tup [.int (i : Nat), x])) h'' s.heap.objs.size (.tup [.int (i : Nat), x]) :=
      ⟨by show 2 ≤ sizeLine; decide, [.int i tk, x'], .cons ⟨_, rfl⟩ (.cons ru .nil), ⟨_, hT2, rfl, _, rfl⟩⟩
    have I1 : Inv X pins σ (upd H s.heap.objs.size (.tup [.int (i : Nat), x])) { s with heap := h'', toks := tk + 1 } :=
      I.turnedNew (ch := [e, it]) (fun b ob hb q => (sb.2 b (fun z => hb (by simp [z]))).trans (hk b ob (fun z => hb (by simp [z])) (fun z => hb (by simp [z])) q)) hf (Nat.le_refl _) new
    refine ⟨.ref s.heap.objs.size, _, I1, rfl, ⟨_, x, rfl, I.hok.fresh (Nat.le_refl _), rfl, fun ys hy => by rw [I.tuple_inj hy hq]; exact hx⟩, ⟨⟨x', ?_⟩, hst.1.at fun o q => (sb.2 it (Ne.symm hne)).trans q, hne⟩, fun b hb => ?_⟩
    · have e1 : ((i + 1 : Nat) : Int) = (i : Int) + 1 := by omega
      rw [e1]; exact he'
    · have hb' : b < s.heap.objs.size := by
        have e' : b = e ∨ b = it := by simpa using hb
        rcases e' with z | z
        · rw [z]; exact hel
        · rw [z]; exact hil
      rw [upd_ne (Nat.ne_of_lt hb')]
      exact (hf b hb).1
  done := by
    intro X hP hw hK hc i pins s σ H E I hf st hg
    subst hP hw hK
    obtain ⟨⟨old, he⟩, hit, hne⟩ := st
    obtain ⟨xs, hq, hx⟩ := hg
    obtain ⟨its, rv, p, hz⟩ := I.tuple hq
    have hT0 : s.heap.IsTuple a its.toArray := p
    have hai : a ≠ it := fun z => by
      obtain ⟨o1, q1, c1, _⟩ := hit
      obtain ⟨o2, q2, c2, _⟩ := hT0
      rw [z, q1] at q2; cases q2; rw [c1] at c2; exact absurd (Value.type.inj c2) (by decide)
    obtain ⟨f0, f1, f2, f3, f4, f5⟩ := hf it (by simp)
    have hl : i = its.toArray.size := by rw [List.size_toArray, ← rv.length]; exact hx.symm
    exact wpAny_pyNext_enum_endD (Draws.tuple (A := X.A.in1) (I.ok.hd hc) it a hai its.toArray) he ⟨hl ▸ hit, hT0⟩ fun h' eb => ⟨rfl, I.turned (t' := s.toks) (fun b o hb q => eb b o hb q) f0 f1 f3 f4 f5⟩
  self := fun A i s Q E st h => let ⟨⟨_, he⟩, _⟩ := st; wpAny_pyIter_enum he h
def iEnumT (K : PySem.W.Frag) (ta : TA) : TI := fun σ H R => ta σ H fun vs H1 => ∃ a xs, vs = [.ref a] ∧ SqT K H1 a xs ∧ R (IteT K a) H1
theorem pi_enumT {X : Cx} {e : Expr} {ta : TA} {p pos tpos : Pos} {elts : List Expr} {kk : Nat} (hg : Gl X "enumerate") (hm : X.mg "enumerate" = none) (ha : PA X [e] ta) (hs : starEach [e] X.env = [(false, eval e X.env)] := by rfl) :
    PI X (.Tuple elts kk tpos) (.Call (.Name "enumerate" p) [e] [] pos) (iEnumT X.K ta) := by
  refine ⟨fun pins s σ H R I h => ?_⟩
  refine PyProof.Rows.Call_ (ld_blt I hg hm PyProof.Rows.boot_enumerate (PyProof.Rows.callWith_type1 (thn (ha.run pos pins s σ H _ I h) fun us s1 ⟨vs, H1, I1, r1, q1⟩ => ?_) hs rfl))
  obtain ⟨a, xs, ex, hq, q⟩ := q1
  subst ex
  cases r1 with
  | cons r rr =>
    cases rr
    cases r
    obtain ⟨its, rv, p', hz⟩ := I1.tuple hq
    refine call_enumerate_tuple (show s1.heap.IsTuple a its.toArray from p') fun h' he hit hsz hk => wpAny_pyIter_enum he ?_
    have I2 : Inv X pins σ H1 { s1 with heap := h' } := I1.kept (t' := s1.toks) hk
    refine ⟨s1.heap.objs.size + 1, [s1.heap.objs.size + 1, s1.heap.objs.size], _, _, H1, rfl, I2, turn_enumT a (s1.heap.objs.size + 1) s1.heap.objs.size, ⟨⟨.none, he⟩, hit, Nat.succ_ne_self _⟩, fun b hb => ?_, q⟩
    have e' : b = s1.heap.objs.size + 1 ∨ b = s1.heap.objs.size := by simpa using hb
    have hle : s1.heap.objs.size ≤ b := by
      rcases e' with z | z
      · rw [z]; exact Nat.le_add_right _ _
      · rw [z]; exact Nat.le_refl _
    exact I1.fpOk hle (I1.hok.fresh hle)
/-- for i, x in enumerate(a tuple) -/
theorem for_enumT {K : PySem.W.Frag} {a : Addr} {xs : List V} {g : TG} {tb : TS} {D : Ends} {σ : L2.St} {H : Hp} (Pv : Nat → L2.St → Hp → Prop) (h0 : Pv 0 σ H) (hl : ∀ i σ H, i ≤ xs.length → Pv i σ H → SqT K H a xs) 
    (hs : ∀ (i : Nat) (x : V) (T : Addr) (σ : L2.St) (H : Hp), xs[i]? = some x → H T = none → Pv i σ H → g (.ref T) σ (upd H T (.tup [.int (i : Nat), x])) fun σ2 H2 => tb { D with nx := Pv (i + 1), ct := Pv (i + 1), bk := D.nx } σ2 H2) (hd : ∀ σ H, Pv xs.length σ H → D.nx σ H) :
    ∃ W : Nat → Nat → L2.St → Hp → Prop, (∃ m, W 0 m σ H) ∧ ∀ i m σ H, W i m σ H →
      ((IteT K a).stop i H ∧ D.nx σ H) ∨ ((IteT K a).go i H ∧ ∃ N : L2.St → Hp → Prop, (∀ σ' H', N σ' H' → ∃ m', m' < m ∧ W (i + 1) m' σ' H') ∧ ∀ x H', (IteT K a).yld i H x H' → g x σ H' fun σ2 H2 => tb { D with nx := N, ct := N, bk := D.nx } σ2 H2) := by
  refine ⟨fun i m σ H => m = xs.length - i ∧ i ≤ xs.length ∧ Pv i σ H, ⟨xs.length, by simp, Nat.zero_le _, h0⟩, ?_⟩
  rintro i m σ H ⟨rfl, hi, p⟩
  have q := hl i σ H hi p
  by_cases hlt : i < xs.length
  · refine .inr ⟨⟨xs, xs[i], q, by simp [hlt]⟩, Pv (i + 1), fun σ' H' p' => ⟨xs.length - (i + 1), by omega, rfl, hlt, p'⟩, fun x H' y => ?_⟩
    obtain ⟨T, y, rfl, hT, rfl, e⟩ := y
    exact hs i y T σ H (e xs q) hT p
  · have e : i = xs.length := by omega
    subst e
    exact .inl ⟨⟨xs, q, rfl⟩, hd σ H p⟩
end K6
namespace K6
open PySem PySem.Spec L2
section
variable {K : PySem.W.Frag} {a b : Addr} {xs ys : List V}
theorem walk_enumT : Walk (IteT K a) xs.length (fun H => SqT K H a xs) (YPair (fun i => some (.int (i : Nat))) (fun i => xs[i]?)) := by
  refine ⟨fun i _ hi q => ⟨xs, xs[i], q, by simp [hi]⟩, fun _ q => ⟨xs, q, rfl⟩, fun i H v H' _ q y => ?_⟩
  obtain ⟨T, x, h1, h2, h3, h4⟩ := y
  exact ⟨T, .int (i : Nat), x, h1, h2, h3, rfl, h4 xs q⟩
theorem walk_zipT {n : Nat} (hn : n = min xs.length ys.length) : Walk (RZ.ItzT K a b) n (fun H => SqT K H a xs ∧ SqT K H b ys) (YPair (fun i => xs[i]?) (fun i => ys[i]?)) := by
  subst hn
  refine ⟨fun i _ hi q => ?_, fun _ q => ⟨xs, ys, q.1, q.2, by omega⟩, fun i H v H' _ q y => ?_⟩
  · have h1 : i < xs.length := by omega
    have h2 : i < ys.length := by omega
    exact ⟨xs, ys, xs[i], ys[i], q.1, q.2, by simp [h1], by simp [h2]⟩
  · obtain ⟨T, x, z, h1, h2, h3, h4, h5⟩ := y
    exact ⟨T, x, z, h1, h2, h3, h4 xs q.1, h5 ys q.2⟩
end
/-- range(n) as a value -/
theorem cr_range1 {X : Cx} : CallR X (.type "range") (fun vs H Q => ∃ n : Int, vs = [V.int n] ∧ ∀ p, H p = none → Q (.ref p) (upd H p (.rng 0 n))) := by
  intro pins s σ H vs us Q I r h
  obtain ⟨n, rfl, q⟩ := h
  cases r with
  | cons ri rr =>
    cases rr
    obtain ⟨t, rfl⟩ := ri
    refine call_range_1 ⟨.ref s.heap.objs.size, upd H s.heap.objs.size (.rng 0 n), I.laid (t' := s.toks + 1 + 1) (fun b o e => Heap.get?_push_of_some _ e) (Nat.le_refl _) ?_, rfl, q _ (I.hok.fresh (Nat.le_refl _))⟩
    exact ⟨s.toks, t, s.toks + 1, Heap.get?_push_size _ rfl⟩
/-- a range object walked -/
def iRngV (te : TE) : TI := fun σ H R => te σ H fun x H1 => ∃ (a : Addr) (lo hi : Int), x = .ref a ∧ H1 a = some (.rng lo hi) ∧ -(2 ^ 62) ≤ lo ∧ lo < 2 ^ 62 ∧ -(2 ^ 62) ≤ hi ∧ hi < 2 ^ 62 ∧ R (Itr lo (hi - lo).toNat) H1
theorem pi_rngV {X : Cx} {tg e : Expr} {te : TE} (he : PE X e te) : PI X tg e (iRngV te) := by
  refine ⟨fun pins s σ H R I h => ?_⟩
  refine thn (he.run pins s σ H _ I h) fun v s1 ⟨x, H1, I1, r1, q1⟩ => ?_
  obtain ⟨a, lo, hi, ex, ha, h1, h2, h3, h4, q⟩ := q1
  subst ex
  cases r1
  obtain ⟨t, u, v, ho⟩ := (show ObjOk X.prog X.w H1 s1.heap a (.rng lo hi) from I1.hok a _ ha)
  refine wpAny_pyIter_range (show IsRange s1.heap a lo hi 1 t u v from ho) (small_one h1 h2 h3 h4) ?_
  refine ⟨s1.heap.objs.size, [s1.heap.objs.size], _, _, H1, rfl, I1.kept (t' := s1.toks) fun b o e => Heap.get?_push_of_some _ e, turn_range _ lo (hi - lo).toNat, ?_, fun b hb => ?_, q⟩
  · have e1 : lo + ((0 : Nat) : Int) * 1 = lo := by simp
    have e2 : (((hi - lo).toNat : Nat) : Int) - ((0 : Nat) : Int) = Builtin.Range.rangeSize lo hi 1 := by rw [rangeSize_one]; split <;> omega
    show IsRangeIter _ _ (lo + ((0 : Nat) : Int) * 1) ((((hi - lo).toNat : Nat) : Int) - ((0 : Nat) : Int)) 1
    rw [e1, e2]
    exact Heap.get?_push_size _ rfl
  · have e : b = s1.heap.objs.size := by simpa using hb
    subst e
    exact I1.fpOk (Nat.le_refl _) (I1.hok.fresh (Nat.le_refl _))
end K6

/-! KR2 -/
set_option Elab.async false
set_option linter.all false
set_option maxRecDepth 100000
set_option maxHeartbeats 4000000
/-! Further rules: sorted of at most one item, a tuple taken no times or once. -/
namespace K6
section
open PySem PySem.Calls PyProof.Rows TS
variable {prog : Program} {w : World} {A : Around} {E : Value → Shared → Prop} {s : Shared}
theorem one_out {vs : List Value} {ps : List (Value × Value)} {out : Array Value} (h1 : vs.length ≤ 1) (a1 : out.toList = ps.map Prod.snd) (a2 : ps.Perm (vs.zip vs)) : out.toList = vs := by
  have hp : out.toList.Perm vs := by
    rw [a1]
    have z := a2.map Prod.snd
    rw [List.map_snd_zip (Nat.le_refl _)] at z
    exact z
  cases vs with
  | nil => exact List.perm_nil.mp hp
  | cons x r =>
    cases r with
    | nil => exact List.perm_singleton.mp hp
    | cons y r => simp at h1
theorem sort_one {a : Addr} {vs : List Value} {n : Nat} {P : PySem.Fin → Shared → Prop} (ho : s.heap.get? a = some (seqObj "list" vs.toArray n)) (h1 : vs.length ≤ 1)
    (h : ∀ out : Array Value, out.toList = vs → P (.done (.ret .none)) { s with heap := sortedHeap s.heap a vs out }) :
    wpAny (model prog w) A (Builtin.«list.sort» ⟨[.ref a], []⟩) P E s :=
  SK.plain_sort (r := fun _ => 0) ho (Nat.lt_of_le_of_lt h1 (by decide)) (fun h2 => absurd (Nat.le_trans h2 h1) (by decide)) fun ps out a1 a2 _ => h out (one_out h1 a1 a2)
/-- sorted(xs), xs a list of one item at most, whatever it is -/
theorem sorted_one {l : Addr} {vs : List Value} {Q : Value → Shared → Prop} (hl : s.heap.IsList l vs.toArray) (h1 : vs.length ≤ 1)
    (h : ∀ out : Array Value, out.toList = vs → Q (.ref (s.heap.objs.size + 1)) { s with heap := sortedAll s.heap vs out }) :
    wpAny (model prog w) A (call (.builtin "sorted") [.ref l]) Q E s := by
  refine Calls.call_function_entry kind_sorted plain_sorted entry_sorted (args_sorted1 _) ?_
  unfold Builtin.«sorted»
  refine wpAny_bind (m := checkCount "sorted" 1 1 _) (wpAny_pure ?_)
  refine wpAny_bind (collect_list hl ?_ (by rw [sizeLine_eq]; omega))
  refine wpAny_bind (wpAny_newList ?_ (by rw [sizeLine_eq]; omega))
  have hsz : ((s.heap.push (seqObj "list" #[] 0)).update s.heap.objs.size (Obj.mapSeq (· ++ vs.toArray))).objs.size = s.heap.objs.size + 1 := by
    rw [Heap.size_update, size_push']
  have hoL : (((s.heap.push (seqObj "list" #[] 0)).update s.heap.objs.size (Obj.mapSeq (· ++ vs.toArray))).push (seqObj "list" vs.toArray 0)).get? (s.heap.objs.size + 1) = some (seqObj "list" vs.toArray 0) := by
    rw [← hsz]; exact Heap.get?_push_size _ rfl
  show wpAny _ _ _ _ _ { s with heap := ((s.heap.push (seqObj "list" #[] 0)).update s.heap.objs.size (Obj.mapSeq (· ++ vs.toArray))).push (seqObj "list" vs.toArray 0) }
  rw [hsz]
  refine wpAny_bind (wpAny_holding (wpAny_call_entry slot_list_sort ⟨_, hoL, rfl⟩ entry_list_sort (sort_one hoL h1 fun out a1 => ⟨_, rfl, ?_⟩) (args_list_sort _)))
  exact wpAny_pure ⟨_, rfl, h out a1⟩
end
open PySem PySem.Spec L2
section
variable {X : Cx}
/-- sorted of a list of one thing at most -/
def rSort1 (K : PySem.W.Frag) : List V → Hp → VK → Prop := fun vs H Q => ∃ (a : Addr) (xs : List V), vs = [V.ref a] ∧ SqL K H a xs ∧ xs.length ≤ 1 ∧ ∀ p, H p = none → Q (.ref p) (upd H p (.lst xs))
theorem cr_sort1 : CallR X (.builtin "sorted") (rSort1 X.K) := by
  intro pins s σ H vs us Q I r h
  obtain ⟨a, xs, rfl, hs, h1, q⟩ := h
  obtain ⟨its, rv, hl, hz⟩ := I.list hs
  rw [Vals.ref1 r]
  refine sorted_one hl.isList (by rw [← rv.length]; exact h1) fun out e => ?_
  obtain ⟨ep, he'⟩ := PyProof.Rows.sortedAll_at s.heap its out
  refine ⟨.ref _, upd H (s.heap.objs.size + 1) (.lst xs), I.laid (t' := s.toks) (fun _ _ => PyProof.Rows.sortedAll_old) (Nat.le_succ _) ⟨by rw [rv.length]; rw [← rv.length]; exact Nat.le_trans h1 (by decide), out.toList, ep, e ▸ rv, he'⟩, rfl, q _ (I.hok.fresh (Nat.le_succ _))⟩
end
end K6

/-! KR3 -/
set_option Elab.async false
set_option linter.all false
set_option maxRecDepth 100000
set_option maxHeartbeats 1000000
/-! A tuple no times or once. -/
namespace K6
open PySem PySem.Spec L2
theorem tuple_mul0 (l : Addr) (items : Array Value) (n : Nat) (dd : Option Addr) (sl : Array (Option Value)) (x : Int) (u : Tok) (c0 : (decide (x < -(2 ^ 63)) || decide (x ≥ 2 ^ 63)) = false) (c1 : (items.isEmpty || x == 1) = false) (c2 : (decide (x ≤ 0) || items.isEmpty) = true) :
    Meets (Builtin.«tuple.__mul__» ⟨[.ref l, .int x u], []⟩) (fun _ R s => s.heap.get? l = some { cls := .type "tuple", dict := dd, data := .seq items n, slots := sl } ∧
      R (.ok (.ret (Value.ref s.heap.objs.size))) { s with heap := s.heap.push { cls := Value.type "tuple", data := Data.seq #[] }, toks := s.toks }) :=
  .of_wp fun prog w A R s h => by
    obtain ⟨hp, g, d, tk, os⟩ := s
    obtain ⟨hl, h⟩ := h
    have f1 := AutoSeq1.idx_int
    wp_walk using AutoSeq1.wpAny_loadPart' hl
    refine wpAny_ite_false (decide_eq_false (by rw [c0]; exact Bool.false_ne_true)) ?_
    wp_walk using AutoSeq1.wpAny_loadPart' hl
    exact ⟨_, rfl, h⟩
theorem tuple_mul1 (l : Addr) (items : Array Value) (n : Nat) (dd : Option Addr) (sl : Array (Option Value)) (x : Int) (u : Tok) (c0 : (decide (x < -(2 ^ 63)) || decide (x ≥ 2 ^ 63)) = false) (c1 : (items.isEmpty || x == 1) = true) :
    Meets (Builtin.«tuple.__mul__» ⟨[.ref l, .int x u], []⟩) (fun _ R s => s.heap.get? l = some { cls := .type "tuple", dict := dd, data := .seq items n, slots := sl } ∧
      R (.ok (.ret (Value.ref l))) s) :=
  .of_wp fun prog w A R s h => by
    obtain ⟨hp, g, d, tk, os⟩ := s
    obtain ⟨hl, h⟩ := h
    have f1 := AutoSeq1.idx_int
    wp_walk using AutoSeq1.wpAny_loadPart' hl
    refine wpAny_ite_false (decide_eq_false (by rw [c0]; exact Bool.false_ne_true)) ?_
    wp_walk using AutoSeq1.wpAny_loadPart' hl
    exact ⟨_, rfl, h⟩
/-- a tuple taken k times -/
def rRepA (K : PySem.W.Frag) : R2 := fun x y H Q => ∃ (l : Addr) (k : Nat) (xs : List V), x = .ref l ∧ y = .int (k : Int) ∧ SqT K H l xs ∧ xs ≠ [] ∧ k ≤ 1000 ∧ xs.length ≤ 1000 ∧ (k = 1 → Q (.ref l) H) ∧
  (k ≠ 1 → ∀ p, H p = none → Q (.ref p) (upd H p (.tup (List.replicate k xs).flatten)))
section
variable {X : Cx}
theorem op_repA : OpR X (binaryOp .Mult) (rRepA X.K) := by
  intro pins s σ H x y v u Q I rx ry h
  obtain ⟨l, k, xs, rfl, rfl, hT, hne, h2, hz, q1, q2⟩ := h
  by_cases hk : 2 ≤ k
  · exact op_repT pins s σ H _ _ v u Q I rx ry ⟨l, k, xs, rfl, rfl, hT, hne, by omega, by omega, hz, by rw [Int.toNat_natCast]; exact q2 (by omega)⟩
  · cases rx
    obtain ⟨t, rfl⟩ := ry
    obtain ⟨its, r, ⟨⟨cls, dd, data, sl⟩, ho, hc, n, hd⟩, hs⟩ := I.tuple hT
    simp only at hc hd
    subst hc hd
    have hn : its ≠ [] := fun e => hne (by
      have hle := r.length
      rw [e] at hle
      exact List.eq_nil_of_length_eq_zero hle)
    have hi : its.toArray.isEmpty = false := by
      cases its with
      | nil => exact absurd rfl hn
      | cons a b => rfl
    have hk' : k = 0 ∨ k = 1 := by omega
    rcases hk' with rfl | rfl
    · refine wpAny_binaryOp_repeat_ref (T := "tuple") (U := "int") (by decide) ⟨_, ho, rfl⟩ (fun s' => typeIs_int s' _ t) noFill_tuple_mul F.fills_int_mul F.slot_int_rmul repeat_tuple F.slot_int_index.lookup
        (call_meets F.slot_int_rmul (typeIs_int s _ t) F.entry_int_rmul (F.args_int_rmul_2 _ _) (int_rmul_tuple _ t l its.toArray n dd sl)
          ⟨ho, rfl, ⟨_, ho, rfl⟩, call_meets F.slot_tuple_mul ⟨_, ho, rfl⟩ F.entry_tuple_mul (F.args_tuple_mul_2 _ _) (tuple_mul0 l its.toArray n dd sl _ t (by decide) (by rw [hi]; rfl) (by rfl)) ⟨ho, ?_⟩⟩)
      refine ⟨.ref s.heap.objs.size, _, I.laid (t' := s.toks) (o := .tup []) (fun b ob q => Heap.get?_push_of_some _ q) (Nat.le_refl _) ?_, rfl, q2 (by decide) _ (I.hok.fresh (Nat.le_refl _))⟩
      exact ⟨by show 0 ≤ sizeLine; exact Nat.zero_le _, [], .nil, PyProof.Rows.IsTup.new _ _⟩
    · refine wpAny_binaryOp_repeat_ref (T := "tuple") (U := "int") (by decide) ⟨_, ho, rfl⟩ (fun s' => typeIs_int s' _ t) noFill_tuple_mul F.fills_int_mul F.slot_int_rmul repeat_tuple F.slot_int_index.lookup
        (call_meets F.slot_int_rmul (typeIs_int s _ t) F.entry_int_rmul (F.args_int_rmul_2 _ _) (int_rmul_tuple _ t l its.toArray n dd sl)
          ⟨ho, rfl, ⟨_, ho, rfl⟩, call_meets F.slot_tuple_mul ⟨_, ho, rfl⟩ F.entry_tuple_mul (F.args_tuple_mul_2 _ _) (tuple_mul1 l its.toArray n dd sl _ t (by decide) (by rw [hi]; rfl)) ⟨ho, ?_⟩⟩)
      exact ⟨.ref l, H, I, rfl, q1 rfl⟩
end
end K6

/-! KD1 -/
set_option Elab.async false
set_option linter.all false
set_option maxRecDepth 100000
set_option maxHeartbeats 4000000
/-! Binomials, sums, a gate's parities, hands. -/
namespace K6
open PySem PySem.Spec L2 KL
abbrev sOdd : Stmt := top 34
abbrev sOther : Stmt := top 35
abbrev sGate : Stmt := top 36
abbrev sFirst : Stmt := top 37
abbrev sHands : Stmt := top 38
abbrev vI (l : List Nat) : List Int := l.map fun n : Nat => (n : Int)
theorem vN_vI (l : List Nat) : vN l = (vI l).map V.int := by rw [List.map_map]; rfl
theorem sum_vI : ∀ l : List Nat, (vI l).sum = ((l.sum : Nat) : Int)
  | [] => rfl
  | x :: l => by
    have := sum_vI l
    show (x : Int) + (vI l).sum = ((x + l.sum : Nat) : Int)
    rw [this]; omega
theorem vN_take {l : List Nat} {i y : Nat} (h : l[i]? = some y) : vN (l.take (i + 1)) = vN (l.take i) ++ [.int (y : Int)] := by
  rw [List.take_succ, h, vN, List.map_append]; rfl
theorem vN_app (a b : List Nat) : vN (a ++ b) = vN a ++ vN b := List.map_append
/-! places in the text -/
def lcs : Expr → Scope
  | .ListComp _ _ sc _ => sc
  | .DictComp _ _ _ sc _ => sc
  | _ => { kind := .function, names := [], isGenerator := false, isCoroutine := false }
def eltE : Expr → Expr
  | .ListComp e _ _ _ => e
  | e => e
def argE (i : Nat) : Expr → Expr
  | .Call _ as _ _ => as.getD i (.Constant .none 0 ⟨0, 0, 0, 0⟩)
  | e => e
def leftE : Expr → Expr
  | .BinOp a _ _ _ => a
  | e => e
def rightE : Expr → Expr
  | .BinOp _ _ b _ => b
  | e => e
def retE : Stmt → Expr
  | .Return (some e) _ => e
  | .Assign _ e _ => e
  | _ => .Constant .none 0 ⟨0, 0, 0, 0⟩
def stE (st : Stmt) (i : Nat) : Stmt := (defBody st).getD i (.Pass ⟨0, 0, 0, 0⟩)
def spOdd : Sp := fun vs H Q _ => ∃ a b : Nat, vs = [.int a, .int b] ∧ Q (.bl (decide (a &&& b = b))) H
def spOther (K : PySem.W.Frag) : Sp := fun vs H Q _ => ∃ (t : Addr) (p : List Nat), vs = [.ref t] ∧ SqT K H t (vN p) ∧ p.length ≤ 64 ∧ NewT H (vN (otherB p)) Q
def spGate : Sp := fun vs H Q _ => ∃ n h : Nat, vs = [.int n, .int h] ∧ n ≤ 9 ∧ h + 2 ≤ n ∧ NewT H (vN (gateB n h)) Q
def oV : Option Nat → V
  | none => .non
  | some i => .int (i : Int)
def spFirst (K : PySem.W.Frag) : Sp := fun vs H Q _ => ∃ (t : Addr) (p : List Nat), vs = [.ref t] ∧ SqT K H t (vN p) ∧ ∀ H', Same H H' → Q (oV (firstOne 0 p)) H'
def spHands (K : PySem.W.Frag) : Sp := fun vs H Q _ => ∃ (t : Addr) (p : List Nat), vs = [.ref t] ∧ SqT K H t (vN p) ∧ p.length ≤ 64 ∧ ∀ H', Same H H' → Q (.int (hands p : Nat)) H'
theorem sm_tup {K : PySem.W.Frag} {H H' : Hp} {t : Addr} {xs : List V} (s : Same H H') (h : SqT K H t xs) : SqT K H' t xs := SqT.ext h s
section
variable {P : Program} {w : World} {K : PySem.W.Frag} {mg : Str → Option Value} {base : Heap}
theorem scOdd : FnScope ["many", "chosen"] ["many", "chosen"] (defScope sOdd) := ⟨rfl, rfl, rfl, by decide +kernel, rfl, by decide +kernel, by decide +kernel⟩
theorem ok_is_odd_in (D : Df K mg "is_odd_in" sOdd) : Cal P w K mg base 1 "is_odd_in" spOdd := by
  refine cal (ps := ["many", "chosen"]) D (fun _ _ _ _ _ _ us hl => match us, hl with | [_, _], _ => rfl) scOdd (fun vs H Q E h => ?_) (fun f cdv A outer s H vs Q E hr h => ?_)
  · obtain ⟨a, b, rfl, _⟩ := h; rfl
  · obtain ⟨a, b, rfl, k⟩ := h
    refine ⟨_, pss_one (ps_ret (pe_cmpR op_eq (pe_op op_and (pv 0) (pv 1)) (pv 1) (nomark _))), ?_⟩
    refine ⟨_, rfl, _, rfl, _, _, rfl, rfl, _, rfl, rfl, ?_⟩
    have e : decide ((V.int (Builtin.bitAnd (a : Int) (b : Int))) = V.int (b : Int)) = decide (a &&& b = b) := by
      rw [PySem.W.os_band]
      by_cases h : a &&& b = b
      · rw [h]; simp
      · rw [decide_eq_false h]
        exact decide_eq_false fun z => h (by injection z with z; omega)
    exact e ▸ k
theorem scOther : FnScope ["bits", "places", "place", "at"] ["bits"] (defScope sOther) := ⟨rfl, rfl, rfl, by decide +kernel, rfl, by decide +kernel, by decide +kernel⟩
theorem ok_other_bits (D : Df K mg "other_bits" sOther) (B : Bt mg) (c1 : Cal P w K mg base 1 "is_odd_in" spOdd) : Cal P w K mg base 2 "other_bits" (spOther K) := by
  refine cal (ps := ["bits"]) D (fun _ _ _ _ _ _ us hl => match us, hl with | [_], _ => rfl) scOther (fun vs H Q E h => ?_) (fun f cdv A outer s H vs Q E hr h => ?_)
  · obtain ⟨t, p, rfl, _⟩ := h; rfl
  · obtain ⟨t, p, rfl, hT, hl, k⟩ := h
    refine ⟨_, pss_cons (ps_set (i := 1) scOther.nd rfl (Or.inr rfl) (pe_callTy cr_range1 (by rfl) B.range (by decide +kernel) (pa_cons (pe_callB call_len_seq (by rfl) B.len (by decide +kernel) (pa_cons (pv 0) pa_nil)) pa_nil)))
      (pss_one (ps_ret (pe_callTy call_tuple_of (by rfl) B.tuple (by decide +kernel) (pa_cons (pe_lc (own := [("place", 2)]) (g := gName 2) (tt := tYes) (by rfl) scOther.nd (pi_rngV (pv 1))
        (blkOk_by (own := [("place", 2)]) (N := ["bits", "places", "place", "at"]) (sc := defScope sOther) (by decide +kernel)) (fun _ _ _ _ _ => pg_name (i := 2) scOther.nd rfl (Or.inr rfl))
        (fun _ _ _ _ _ => pts_nil)
        (fun _ _ _ _ _ => pe_op op_mod (pe_callB (r := rSum K) (cr_sum rfl) (by rfl) B.sum (by decide +kernel) (pa_cons (pe_lc (own := [("at", 3)]) (g := gName 3) (by rfl) scOther.nd (pi_rngV (pv 1))
          (blkOk_by (own := [("at", 3)]) (N := ["bits", "places", "place", "at"]) (sc := relS (lcs (argE 0 (retE (stE sOther 1)))) (defScope sOther)) (by decide +kernel)) (fun _ _ _ _ _ => pg_name (i := 3) scOther.nd rfl (Or.inl rfl))
          (fun _ _ _ _ _ => pts_one (pt_val (pc c1 hr (by decide) (by rfl) (pa_cons (pv 3) (pa_cons (pv 2) pa_nil))))) (fun _ _ _ _ _ => pe_ix (r := rIxT K) ix_tup (pv 0) (pv 3) (fun _ _ => rfl))) pa_nil)) pe_int)) pa_nil)))), ?_⟩
    refine ⟨_, rfl, t, _, rfl, .inr hT, _, rfl, fun r hrr => ?_⟩
    rw [vN_len]
    have s0 : Same H (upd H r (.rng 0 (p.length : Nat))) := sm_upd (Same.refl H) hrr
    have hb := in62 (N := p.length) (by omega)
    refine ⟨_, rfl, r, 0, _, rfl, upd_same, by decide, by decide, hb.1, hb.2, fun D hD => ?_⟩
    rw [Int.sub_zero, Int.toNat_natCast]
    have hne : ∀ {H' : Hp}, Same (upd H r (.rng 0 (p.length : Nat))) H' → H' r = some (.rng 0 (p.length : Nat)) := fun s => s r _ upd_same
    refine lc_range (lo := 0) (n := p.length) (fun i H' => Same (upd H r (.rng 0 (p.length : Nat))) H' ∧ H' D = some (.lst (vN ((otherB p).take i)))) ⟨sm_upd (Same.refl _) hD, upd_same⟩ ?_ ?_
    · rintro j H1 hj ⟨sm, hd⟩
      have hb2 := in62 (N := p.length) (by omega)
      refine ⟨rfl, _, rfl, r, 0, _, rfl, hne sm, by decide, by decide, hb2.1, hb2.2, fun D2 hD2 => ?_⟩
      rw [Int.sub_zero, Int.toNat_natCast]
      refine lc_range (lo := 0) (n := p.length) (fun i H' => Same H1 H' ∧ H' D2 = some (.lst (vN (((List.range i).filter fun a => decide (a &&& j = j)).map fun a => p.getD a 0)))) ⟨sm_upd (Same.refl _) hD2, upd_same⟩ ?_ ?_
      · rintro a H2 ha ⟨sm2, hd2⟩
        refine ⟨rfl, _, rfl, _, rfl, a, j, ?_, _, rfl, ?_⟩
        · show [V.int (0 + (a : Int)), V.int (0 + (j : Int))] = _
          rw [Int.zero_add, Int.zero_add]
        · have er : ((List.range (a + 1)).filter fun a => decide (a &&& j = j)).map (fun a => p.getD a 0) = ((List.range a).filter fun a => decide (a &&& j = j)).map (fun a => p.getD a 0) ++ (if a &&& j = j then [p.getD a 0] else []) := by
            rw [List.range_succ, List.filter_append, List.map_append, List.filter_cons]
            by_cases e : a &&& j = j <;> simp [e]
          refine ite2 (fun e => ?_) (fun e => ?_)
          · have e' : a &&& j = j := of_decide_eq_true e
            rw [if_pos e'] at er
            have hg : p[a]? = some (p.getD a 0) := by rw [List.getD_eq_getElem?_getD, List.getElem?_eq_getElem ha]; rfl
            refine ⟨_, rfl, _, rfl, t, _, (a : Int), .int ((p.getD a 0 : Nat) : Int), rfl, ?_, sm_tup (Same.trans (Same.trans s0 sm) sm2) hT, atI_nat (vN_at hg), _, hd2, small1000 ?_, sm_set sm2 hD2, ?_⟩
            · show V.int (0 + (a : Int)) = _; rw [Int.zero_add]
            · rw [vN_len, List.length_map]
              have := List.length_filter_le (fun a => decide (a &&& j = j)) (List.range a)
              rw [List.length_range] at this; omega
            · rw [upd_same, er, vN_app]; rfl
          · have e' : ¬ (a &&& j = j) := fun z => e (decide_eq_true z)
            rw [if_neg e', List.append_nil] at er
            exact ⟨sm2, by rw [er]; exact hd2⟩
      · rintro H2 ⟨sm2, hd2⟩
        refine ⟨D2, _, rfl, SqL.of (by rw [hd2, vN_vI]), _, _, rfl, rfl, (by show (0 : Int) < 2; decide), ?_⟩
        refine ⟨_, sm2 _ _ hd, small1000 ?_, sm_set (Same.trans sm sm2) hD, ?_⟩
        · rw [vN_len, List.length_take]; unfold otherB; rw [List.length_map, List.length_range]; omega
        · have hg : (otherB p)[j]? = some ((((List.range p.length).filter fun a => decide (a &&& j = j)).map fun a => p.getD a 0).sum % 2) := by
            unfold otherB; rw [List.getElem?_map, List.getElem?_range hj]; rfl
          rw [upd_same, vN_take hg, sum_vI]
          congr 3
    · rintro H1 ⟨sm, hd⟩
      have hfull : (otherB p).take p.length = otherB p := List.take_of_length_le (by unfold otherB; rw [List.length_map, List.length_range]; exact Nat.le_refl _)
      rw [hfull] at hd
      refine ⟨D, _, rfl, .inl ⟨SqL.of hd, fun q hq => ?_⟩⟩
      have s1 : Same H H1 := Same.trans s0 sm
      exact k _ q (sm_upd s1 hq) (s1.free hq) upd_same
end
end K6

/-! KD2 -/
set_option Elab.async false
set_option linter.all false
set_option maxRecDepth 100000
set_option maxHeartbeats 4000000
namespace K6
open PySem PySem.Spec L2 KL
theorem rep_any {K : PySem.W.Frag} {H : Hp} {l : Addr} {k : Nat} {xs : List V} {Q : VK} (h : H l = some (.tup xs)) (hT : SqT K H l xs) (hne : xs ≠ []) (hk : k ≤ 1000) (hl : xs.length ≤ 1000)
    (q : ∀ a H1, Same H H1 → (a = l ∨ H a = none) → H1 a = some (.tup (List.replicate k xs).flatten) → Q (.ref a) H1) : rRepA K (.ref l) (.int k) H Q := by
  refine ⟨l, k, xs, rfl, rfl, hT, hne, hk, hl, fun e => ?_, fun e p hp => q p _ (sm_upd (Same.refl H) hp) (.inr hp) upd_same⟩
  subst e
  refine q l H (Same.refl H) (.inl rfl) ?_
  rw [h, List.replicate_one, List.flatten_singleton]
theorem cat_new {K : PySem.W.Frag} {H0 H : Hp} {a b : Addr} {xs ys : List V} {Q : VK} (s : Same H0 H) (ha : H0 a = none) (hb : H0 b = none) (h1 : H a = some (.tup xs)) (h2 : H b = some (.tup ys)) (t1 : SqT K H a xs) (t2 : SqT K H b ys) (hl : xs.length + ys.length ≤ sizeLine)
    (q : ∀ c H1, Same H0 H1 → H0 c = none → H1 c = some (.tup (xs ++ ys)) → Q (.ref c) H1) : rCatA K (.ref a) (.ref b) H Q := by
  refine ⟨a, b, xs, ys, rfl, rfl, t1, t2, hl, fun e => ?_, fun _ e => ?_, fun _ _ p hp => q p _ (sm_upd s hp) (s.free hp) upd_same⟩
  · subst e; exact q b H s hb h2
  · subst e; exact q a H s ha (by rw [h1, List.append_nil])
theorem flat_rep (h : Nat) : (List.replicate h [V.int 0]).flatten = vN (List.replicate h 0) := by
  induction h with
  | zero => rfl
  | succ h ih => rw [List.replicate_succ, List.flatten_cons, ih, List.replicate_succ]; rfl
section
variable {P : Program} {w : World} {K : PySem.W.Frag} {mg : Str → Option Value} {base : Heap}
theorem scGate : FnScope ["lamps", "hands", "ahead", "behind", "place"] ["lamps", "hands"] (defScope sGate) := ⟨rfl, rfl, rfl, by decide +kernel, rfl, by decide +kernel, by decide +kernel⟩
def gTail (m : Nat) : List Nat := (List.range (m + 1)).map fun pl => if m &&& pl = pl then 1 else 0
theorem gateB_eq (m h : Nat) : gateB (m + 2 + h) h = List.replicate h 0 ++ gTail m := by
  unfold gateB gTail
  rw [show m + 2 + h - 1 - h = m + 1 by omega, show m + 2 + h - 2 - h = m by omega]
theorem ok_gate_bits (D : Df K mg "gate_bits" sGate) (B : Bt mg) (c1 : Cal P w K mg base 1 "is_odd_in" spOdd) : Cal P w K mg base 2 "gate_bits" spGate := by
  refine cal (ps := ["lamps", "hands"]) D (fun _ _ _ _ _ _ us hl => match us, hl with | [_, _], _ => rfl) scGate (fun vs H Q E h => ?_) (fun f cdv A outer s H vs Q E hr h => ?_)
  · obtain ⟨n, h, rfl, _⟩ := h; rfl
  · obtain ⟨n, h, rfl, hn, hh, k⟩ := h
    obtain ⟨m, rfl⟩ : ∃ m, n = m + 2 + h := ⟨n - 2 - h, by omega⟩
    have e0 : ((m + 2 + h : Nat) : Int) - 2 - (h : Int) = (m : Int) := by omega
    refine ⟨_, pss_cons (ps_asg (pe_tup (pa_cons (pe_op op_repA (pe_tup (pa_cons pe_int pa_nil)) (pv 1)) (pa_cons (pe_op op_sub (pe_op op_sub (pv 0) pe_int) (pv 1)) pa_nil)))
        (pg_tup rfl (pgs_cons (pg_name (i := 2) scGate.nd rfl (Or.inl rfl)) (pgs_cons (pg_name (i := 3) scGate.nd rfl (Or.inr rfl)) pgs_nil))))
      (pss_one (ps_ret (pe_op op_catA (pv 2) (pe_callTy call_tuple_of (by rfl) B.tuple (by decide +kernel) (pa_cons (pe_lc (own := [("place", 4)]) (g := gName 4) (tt := tYes) (by rfl) scGate.nd (pi_range1 (by rfl) B.range (pa_cons (pe_op op_add (pv 3) pe_int) pa_nil))
        (blkOk_by (own := [("place", 4)]) (N := ["lamps", "hands", "ahead", "behind", "place"]) (sc := defScope sGate) (by decide +kernel)) (fun _ _ _ _ _ => pg_name (i := 4) scGate.nd rfl (Or.inl rfl))
        (fun _ _ _ _ _ => pts_nil)
        (fun _ _ _ _ _ => pe_ifExp (pt_val (pc c1 hr (by decide) (by rfl) (pa_cons (pv 3) (pa_cons (pv 4) pa_nil)))) pe_int pe_int)) pa_nil))))), ?_⟩
    refine ⟨by decide, fun p1 hp1 => ⟨_, rfl, ?_⟩⟩
    refine rep_any upd_same (.of upd_same) (by simp) (by omega) (by decide) fun a H1 sm ha h1 => ?_
    rw [flat_rep] at h1
    have s0 : Same H H1 := Same.trans (sm_upd (Same.refl H) hp1) sm
    have ha0 : H a = none := by
      rcases ha with rfl | ha
      · exact hp1
      · exact (sm_upd (Same.refl H) hp1).free ha
    refine ⟨_, rfl, _, _, rfl, rfl, _, rfl, _, _, rfl, rfl, by show (2:Nat) ≤ sizeLine; decide, fun p2 hp2 => ?_⟩
    refine ⟨p2, _, rfl, .of upd_same, rfl, _, _, rfl, _, _, rfl, rfl, ?_⟩
    have s1 : Same H (upd H1 p2 (.tup [.ref a, .int (((m + 2 + h : Nat) : Int) - 2 - (h : Int))])) := sm_upd s0 hp2
    have h2 : (upd H1 p2 (.tup [.ref a, .int (((m + 2 + h : Nat) : Int) - 2 - (h : Int))])) a = some (.tup (vN (List.replicate h 0))) := sm_upd (Same.refl H1) hp2 _ _ h1
    generalize (upd H1 p2 (.tup [.ref a, .int (((m + 2 + h : Nat) : Int) - 2 - (h : Int))])) = H2 at s1 h2
    have h62 := in62 (N := m + 1) (by omega)
    refine ⟨_, rfl, _, rfl, _, _, rfl, rfl, _, congrArg (fun z => [V.int z]) (show (((m + 2 + h : Nat) : Int) - 2 - (h : Int)) + 1 = ((m + 1 : Nat) : Int) by omega), h62.1, h62.2, fun D hD => ?_⟩
    rw [Int.toNat_natCast]
    refine lc_range (lo := 0) (n := m + 1) (fun i H' => Same H2 H' ∧ H' D = some (.lst (vN ((gTail m).take i)))) ⟨sm_upd (Same.refl _) hD, upd_same⟩ ?_ ?_
    · rintro i H3 hi ⟨sm3, hd⟩
      have hg : (gTail m)[i]? = some (if m &&& i = i then 1 else 0) := by
        unfold gTail; rw [List.getElem?_map, List.getElem?_range hi]; rfl
      have hlen : ((vN ((gTail m).take i))).length ≤ 1000 := by
        rw [vN_len, List.length_take]; unfold gTail; rw [List.length_map, List.length_range]; omega
      refine ⟨rfl, _, rfl, _, rfl, m, i, ?_, _, rfl, ?_⟩
      · show [V.int _, V.int (0 + (i : Int))] = _
        rw [e0, Int.zero_add]
      · refine ite2 (fun e => ?_) (fun e => ?_)
        · rw [if_pos (of_decide_eq_true e)] at hg
          exact ⟨_, hd, small1000 hlen, sm_set sm3 hD, by rw [upd_same, vN_take hg]; rfl⟩
        · rw [if_neg (fun z => e (decide_eq_true z))] at hg
          exact ⟨_, hd, small1000 hlen, sm_set sm3 hD, by rw [upd_same, vN_take hg]; rfl⟩
    · rintro H3 ⟨sm3, hd⟩
      rw [show (gTail m).take (m + 1) = gTail m from List.take_of_length_le (by unfold gTail; rw [List.length_map, List.length_range]; exact Nat.le_refl _)] at hd
      refine ⟨D, _, rfl, .inl ⟨SqL.of hd, fun q hq => ?_⟩⟩
      have s3 : Same H H3 := Same.trans s1 sm3
      have hT1 := sm_upd (Same.refl H3) (o := .tup (vN (gTail m))) hq _ _ (sm3 _ _ h2)
      refine cat_new (sm_upd s3 hq) ha0 (s3.free hq) hT1 upd_same (.of hT1) (.of upd_same) ?_ fun c H4 s4 hc h4 => ?_
      · rw [vN_len, vN_len, List.length_replicate]; unfold gTail; rw [List.length_map, List.length_range]
        exact Nat.le_trans (show h + (m + 1) ≤ 9 by omega) (by decide)
      · exact k _ c s4 hc (by rw [h4, gateB_eq, vN_app])
theorem scFirst : FnScope ["bits", "place", "bit"] ["bits"] (defScope sFirst) := ⟨rfl, rfl, rfl, by decide +kernel, rfl, by decide +kernel, by decide +kernel⟩
theorem firstOne_drop {p : List Nat} {i b : Nat} (h : p[i]? = some b) : firstOne i (p.drop i) = if b = 1 then some i else firstOne (i + 1) (p.drop (i + 1)) := by
  obtain ⟨hl, e⟩ := List.getElem?_eq_some_iff.mp h
  rw [List.drop_eq_getElem_cons hl, e]; rfl
theorem ok_first_one (D : Df K mg "first_one" sFirst) (B : Bt mg) : Cal P w K mg base 1 "first_one" (spFirst K) := by
  refine cal (ps := ["bits"]) D (fun _ _ _ _ _ _ us hl => match us, hl with | [_], _ => rfl) scFirst (fun vs H Q E h => ?_) (fun f cdv A outer s H vs Q E hr h => ?_)
  · obtain ⟨n, h, rfl, _⟩ := h; rfl
  · obtain ⟨t, p, rfl, hT, k⟩ := h
    refine ⟨_, pss_cons (ps_for PassesOwn.never rfl (pi_enumT (by rfl) B.enumerate (pa_cons (pv 0) pa_nil)) (pg_tup rfl (pgs_cons (pg_name (i := 1) scFirst.nd rfl (Or.inl rfl)) (pgs_cons (pg_name (i := 2) scFirst.nd rfl (Or.inl rfl)) pgs_nil)))
        (pss_one (ps_if (pt_cmpR op_eq (pv 2) pe_int (nomark _)) (pss_one (ps_ret (pv 1))) pss_nil))) (pss_one (ps_ret pe_non)), ?_⟩
    refine ⟨_, rfl, t, _, rfl, hT, ?_⟩
    refine for_enumT (xs := vN p) (fun i σ H' => (∃ a b, σ = [some (.ref t), a, b]) ∧ Same H H' ∧ firstOne 0 p = firstOne i (p.drop i)) ⟨⟨_, _, rfl⟩, Same.refl H, rfl⟩ (fun i σ H' _ q => sm_tup q.2.1 hT) ?_ ?_
    · rintro i x T σ H' hx hT' ⟨⟨a, b, rfl⟩, sm, hf⟩
      obtain ⟨y, hy, rfl⟩ := vN_get hx
      rw [firstOne_drop hy] at hf
      refine ⟨T, _, rfl, .of upd_same, rfl, _, _, rfl, _, _, rfl, rfl, _, rfl, rfl, _, rfl, ?_⟩
      refine ite2 (fun e => ?_) (fun e => ?_)
      · have e' : y = 1 := by have := of_decide_eq_true e; injection this with this; omega
        rw [if_pos e'] at hf
        rw [hf] at k
        exact ⟨_, rfl, k _ (sm_upd sm hT')⟩
      · have e' : ¬ y = 1 := fun z => e (decide_eq_true (by rw [z]; rfl))
        rw [if_neg e'] at hf
        exact ⟨⟨_, _, rfl⟩, sm_upd sm hT', hf⟩
    · rintro σ H' ⟨⟨a, b, rfl⟩, sm, hf⟩
      rw [vN_len, List.drop_length] at hf
      rw [hf] at k
      exact k _ sm
theorem scHands : FnScope ["parities", "first"] ["parities"] (defScope sHands) := ⟨rfl, rfl, rfl, by decide +kernel, rfl, by decide +kernel, by decide +kernel⟩
theorem otherB_len (p : List Nat) : (otherB p).length = p.length := by unfold otherB; rw [List.length_map, List.length_range]
theorem firstOne_lt : ∀ {l : List Nat} {i f : Nat}, firstOne i l = some f → f < i + l.length
  | [], _, _, h => by cases h
  | x :: r, i, f, h => by
    unfold firstOne at h
    split at h
    · cases h; simp
    · have := firstOne_lt h; simp; omega
theorem ok_hands_in (D : Df K mg "hands_in" sHands) (B : Bt mg) (c1 : Cal P w K mg base 2 "other_bits" (spOther K)) (c2 : Cal P w K mg base 1 "first_one" (spFirst K)) : Cal P w K mg base 3 "hands_in" (spHands K) := by
  refine cal (ps := ["parities"]) D (fun _ _ _ _ _ _ us hl => match us, hl with | [_], _ => rfl) scHands (fun vs H Q E h => ?_) (fun f cdv A outer s H vs Q E hr h => ?_)
  · obtain ⟨n, h, rfl, _⟩ := h; rfl
  · obtain ⟨t, p, rfl, hT, hl, k⟩ := h
    refine ⟨_, pss_cons (ps_set (i := 1) scHands.nd rfl (Or.inl rfl) (pc c2 hr (by decide) (by rfl) (pa_cons (pc c1 hr (by decide) (by rfl) (pa_cons (pv 0) pa_nil)) pa_nil)))
      (pss_one (ps_ret (pe_ifExp (pt_cmp (pc_isN (pv 1)) rfl) pe_int (pe_callB (call_max2 rfl) (by rfl) B.max (by decide +kernel) (pa_cons pe_int (pa_cons (pe_op op_sub (pe_op op_sub (pe_callB call_len_seq (by rfl) B.len (by decide +kernel) (pa_cons (pv 0) pa_nil)) pe_int) (pv 1)) pa_nil)))))), ?_⟩
    refine ⟨_, rfl, t, p, rfl, hT, hl, fun H1 q sm hq h1 => ?_⟩
    refine ⟨q, otherB p, rfl, .of h1, fun H2 sm2 => ?_⟩
    have s2 := Same.trans sm sm2
    unfold hands at k
    cases e : firstOne 0 (otherB p) with
    | none =>
      rw [e] at k
      exact ⟨_, rfl, _, rfl, iteT (k _ s2)⟩
    | some g =>
      rw [e] at k
      have hg := firstOne_lt e
      rw [otherB_len] at hg
      refine ⟨_, rfl, _, rfl, iteF ⟨_, rfl, t, _, rfl, .inr (sm_tup s2 hT), _, _, rfl, rfl, _, rfl, _, _, rfl, rfl, _, _, rfl, ?_⟩⟩
      rw [vN_len]
      have := k _ s2
      have e2 : (if ((p.length : Int) - 1 - (g : Int)) > 1 then ((p.length : Int) - 1 - (g : Int)) else 1) = ((max 1 (p.length - 1 - g) : Nat) : Int) := by
        split <;> omega
      rw [← e2] at this
      exact this
end
end K6

/-! KH -/
set_option Elab.async false
set_option linter.all false
set_option maxRecDepth 100000
set_option maxHeartbeats 4000000
/-! Helpers: comprehensions by a list of results; equal tuples of numbers; tables of tuples. -/
namespace K6
open PySem PySem.Spec L2 KL
section
variable {J : It} {n : Nat} {G : Hp → Prop} {Y : Nat → Hp → V → Hp → Prop}
/-- a comprehension: the i-th item gives F i, or is left out -/
theorem lc_flt (w : Walk J n G Y) (F : Nat → Option V) (hn : n ≤ 1000) {g : TG} {tt : TT} {te : TE} {vs : List Nat} {σ : St} {H1 : Hp} {D : Addr} {Qd : Hp → Prop} (hD : H1 D = none) (hG : ∀ H, Same H1 H → G H)
    (hs : ∀ i x H H' (R : V → Hp → Prop) (R' : Hp → Prop), i < n → Same H1 H → Y i H x H' → (∀ y H4, Same H H4 → F i = some y → R y H4) → (∀ H4, Same H H4 → F i = none → R' H4) → 
      g x (wipe σ vs) H' fun σ2 H2 => wipe σ2 vs = wipe σ vs ∧ tt σ2 H2 fun b H3 => if b = true then te σ2 H3 R else R' H3)
    (hd : ∀ H, Same H1 H → H D = some (.lst ((List.range n).filterMap F)) → Qd H) :
    ∃ W : Nat → Nat → Hp → Prop, (∃ m, W 0 m (upd H1 D (.lst []))) ∧ ∀ i m H, W i m H →
      (J.stop i H ∧ Qd H) ∨ (J.go i H ∧ ∃ Nx : Hp → Prop, (∀ H', Nx H' → ∃ m', m' < m ∧ W (i + 1) m' H') ∧ ∀ x H', J.yld i H x H' → g x (wipe σ vs) H' fun σ2 H2 => wipe σ2 vs = wipe σ vs ∧ tt σ2 H2 fun b H3 =>
        if b = true then te σ2 H3 fun y H4 => ∃ acc, H4 D = some (.lst acc) ∧ acc.length < sizeLine ∧ Nx (upd H4 D (.lst (acc ++ [y]))) else Nx H3) := by
  refine lc_it w (fun i H => i ≤ n ∧ Same H1 H ∧ H D = some (.lst ((List.range i).filterMap F))) ⟨Nat.zero_le _, sm_upd (Same.refl _) hD, upd_same⟩ (fun i H _ q => hG H q.2.1) ?_ (fun H q => hd H q.2.1 q.2.2)
  rintro i x H H' hi ⟨hle, sm, hd⟩ y
  have hlen : ((List.range i).filterMap F).length ≤ 1000 := by
    have := List.length_filterMap_le F (List.range i)
    rw [List.length_range] at this; omega
  refine hs i x H H' _ _ hi sm y (fun z H4 s4 e => ?_) (fun H4 s4 e => ?_)
  · refine ⟨_, s4 _ _ hd, small1000 hlen, hi, sm_set (Same.trans sm s4) hD, ?_⟩
    rw [upd_same, List.range_succ, List.filterMap_append, List.filterMap_cons, e, List.filterMap_nil]
  · refine ⟨hi, Same.trans sm s4, ?_⟩
    rw [s4 _ _ hd, List.range_succ, List.filterMap_append, List.filterMap_cons, e, List.filterMap_nil, List.append_nil]
/-- a comprehension without a test: the i-th of L -/
theorem lc_map (w : Walk J n G Y) (L : List V) (hL : L.length = n) (hn : n ≤ 1000) {g : TG} {te : TE} {vs : List Nat} {σ : St} {H1 : Hp} {D : Addr} {Qd : Hp → Prop} (hD : H1 D = none) (hG : ∀ H, Same H1 H → G H)
    (hs : ∀ i x H H' (R : V → Hp → Prop), i < n → Same H1 H → Y i H x H' → (∀ y H4, Same H H4 → L[i]? = some y → R y H4) → 
      g x (wipe σ vs) H' fun σ2 H2 => wipe σ2 vs = wipe σ vs ∧ te σ2 H2 R)
    (hd : ∀ H, Same H1 H → H D = some (.lst L) → Qd H) :
    ∃ W : Nat → Nat → Hp → Prop, (∃ m, W 0 m (upd H1 D (.lst []))) ∧ ∀ i m H, W i m H →
      (J.stop i H ∧ Qd H) ∨ (J.go i H ∧ ∃ Nx : Hp → Prop, (∀ H', Nx H' → ∃ m', m' < m ∧ W (i + 1) m' H') ∧ ∀ x H', J.yld i H x H' → g x (wipe σ vs) H' fun σ2 H2 => wipe σ2 vs = wipe σ vs ∧ tYes σ2 H2 fun b H3 =>
        if b = true then te σ2 H3 fun y H4 => ∃ acc, H4 D = some (.lst acc) ∧ acc.length < sizeLine ∧ Nx (upd H4 D (.lst (acc ++ [y]))) else Nx H3) := by
  refine lc_it w (fun i H => i ≤ n ∧ Same H1 H ∧ H D = some (.lst (L.take i))) ⟨Nat.zero_le _, sm_upd (Same.refl _) hD, upd_same⟩ (fun i H _ q => hG H q.2.1) ?_ (fun H q => hd H q.2.1 (by have := q.2.2; rw [List.take_of_length_le (by omega)] at this; exact this))
  rintro i x H H' hi ⟨hle, sm, hd⟩ y
  have hlen : (L.take i).length ≤ 1000 := by rw [List.length_take]; omega
  show g x (wipe σ vs) H' fun σ2 H2 => wipe σ2 vs = wipe σ vs ∧ te σ2 H2 _
  refine hs i x H H' _ hi sm y (fun z H4 s4 e => ?_)
  refine ⟨_, s4 _ _ hd, small1000 hlen, hi, sm_set (Same.trans sm s4) hD, ?_⟩
  rw [upd_same, List.take_succ, e]; rfl
end
/-! a pair, this way or that -/
theorem if_pair {c : Bool} {t1 t2 : TE} {σ : St} {H : Hp} {x y : V} (h1 : ∀ Q : VK, Q x H → t1 σ H Q) (h2 : ∀ Q : VK, Q y H → t2 σ H Q) {Q : VK}
    (k : ∀ p, H p = none → Q (.ref p) (upd H p (.tup [if c = true then x else y, if c = true then y else x]))) : if c = true then tTup (tCons t1 (tCons t2 tNil)) σ H Q else tTup (tCons t2 (tCons t1 tNil)) σ H Q := by
  have hz : 2 ≤ sizeLine := by decide
  by_cases e : c = true
  · rw [if_pos e]
    refine h1 _ (h2 _ ⟨hz, fun p hp => ?_⟩)
    have := k p hp
    rw [if_pos e, if_pos e] at this; exact this
  · rw [if_neg e]
    refine h2 _ (h1 _ ⟨hz, fun p hp => ?_⟩)
    have := k p hp
    rw [if_neg e, if_neg e] at this; exact this
/-! numbers as data -/
def vDs (l : List Nat) : List PyData := l.map fun n : Nat => .int (n : Int)
abbrev vD (l : List Nat) : PyData := .tuple (vDs l)
theorem dpAll_vN {K : PySem.W.Frag} {H : Hp} : ∀ l : List Nat, DpAll K H (vN l) (vDs l)
  | [] => .nil
  | x :: l => .cons (.int _) (dpAll_vN l)
theorem dp_vN {K : PySem.W.Frag} {H : Hp} {a : Addr} {l : List Nat} (h : SqT K H a (vN l)) : Dp K H (.ref a) (vD l) := .tup h (dpAll_vN l)
theorem dp_vNL {K : PySem.W.Frag} {H : Hp} {a : Addr} {l : List Nat} (h : SqL K H a (vN l)) : Dp K H (.ref a) (.list (vDs l)) := .lst h (dpAll_vN l)
theorem vDs_lay : ∀ l : List Nat, PyData.canLayAll0 (vDs l) = true
  | [] => by simp [vDs, PyData.canLayAll0]
  | x :: l => by
    have := vDs_lay l
    show (PyData.canLay0 (.int (x : Int)) && PyData.canLayAll0 (vDs l)) = true
    rw [this]; simp [PyData.canLay0]
theorem vDs_depth : ∀ l : List Nat, PyData.depthAll (vDs l) ≤ 1
  | [] => by simp [vDs, PyData.depthAll]
  | x :: l => by
    have := vDs_depth l
    have e : vDs (x :: l) = .int (x : Int) :: vDs l := rfl
    rw [e]; simp only [PyData.depthAll, PyData.depth]; omega
theorem vD_shaped (l : List Nat) : SeqAt.shaped (vD l) = true := by
  have h := vDs_depth l
  show ((vD l).canLay0 && decide ((vD l).depth ≤ 64)) = true
  rw [Bool.and_eq_true]
  exact ⟨by simp only [vD, PyData.canLay0]; exact vDs_lay l, decide_eq_true (by simp only [vD, PyData.depth]; omega)⟩
theorem vDL_shaped (l : List Nat) : SeqAt.shaped (.list (vDs l)) = true := by
  have h := vDs_depth l
  show ((PyData.list (vDs l)).canLay0 && decide ((PyData.list (vDs l)).depth ≤ 64)) = true
  rw [Bool.and_eq_true]
  exact ⟨by simp only [PyData.canLay0]; exact vDs_lay l, decide_eq_true (by simp only [PyData.depth]; omega)⟩
theorem eqvAll_vDs : ∀ a b : List Nat, PyData.eqvAll (vDs a) (vDs b) = decide (a = b)
  | [], [] => rfl
  | [], y :: b => rfl
  | x :: a, [] => rfl
  | x :: a, y :: b => by
    have ih := eqvAll_vDs a b
    show (PyData.eqv (.int (x : Int)) (.int (y : Int)) && PyData.eqvAll (vDs a) (vDs b)) = _
    rw [ih]
    show (((x : Int) == (y : Int)) && _) = _
    by_cases h1 : x = y
    · subst h1
      by_cases h2 : a = b
      · subst h2; simp
      · simp [h2]
    · have e : ((x : Int) == (y : Int)) = false := beq_eq_false_iff_ne.mpr (by omega)
      rw [e]; simp [h1]
theorem eqv_vD (a b : List Nat) : PyData.eqv (vD a) (vD b) = decide (a = b) := by
  show PyData.eqvAll (vDs a) (vDs b) = _
  exact eqvAll_vDs a b
theorem eqv_vDL (a b : List Nat) : PyData.eqv (.list (vDs a)) (.list (vDs b)) = decide (a = b) := by
  show PyData.eqvAll (vDs a) (vDs b) = _
  exact eqvAll_vDs a b
/-! lists of values, each with its own -/
def AL {α : Type} (R : V → α → Prop) : List V → List α → Prop
  | [], [] => True
  | v :: vs, l :: ls => R v l ∧ AL R vs ls
  | _, _ => False
section
variable {α : Type} {R : V → α → Prop}
theorem AL.imp {R' : V → α → Prop} (s : ∀ v l, R v l → R' v l) : ∀ {xs : List V} {L : List α}, AL R xs L → AL R' xs L
  | [], [], _ => trivial
  | v :: vs, l :: ls, ⟨h, t⟩ => ⟨s _ _ h, AL.imp s t⟩
  | [], _ :: _, h => h.elim
  | _ :: _, [], h => h.elim
theorem AL.len : ∀ {xs : List V} {L : List α}, AL R xs L → xs.length = L.length
  | [], [], _ => rfl
  | v :: vs, l :: ls, ⟨_, t⟩ => by simp [AL.len t]
  | [], _ :: _, h => h.elim
  | _ :: _, [], h => h.elim
theorem AL.app : ∀ {xs : List V} {L : List α} {ys : List V} {M : List α}, AL R xs L → AL R ys M → AL R (xs ++ ys) (L ++ M)
  | [], [], _, _, _, h => h
  | v :: vs, l :: ls, _, _, ⟨a, t⟩, h => ⟨a, AL.app t h⟩
  | [], _ :: _, _, _, h, _ => h.elim
  | _ :: _, [], _, _, h, _ => h.elim
theorem AL.get : ∀ {xs : List V} {L : List α} {i : Nat} {x : V}, AL R xs L → xs[i]? = some x → ∃ l, L[i]? = some l ∧ R x l
  | [], [], _, _, _, h => by simp at h
  | v :: vs, l :: ls, 0, x, ⟨q, t⟩, h => by
    simp at h; subst h; exact ⟨l, rfl, q⟩
  | v :: vs, l :: ls, i + 1, x, ⟨_, t⟩, h => by
    have := AL.get (i := i) t (by simpa using h)
    simpa using this
  | [], _ :: _, _, _, h, _ => h.elim
  | _ :: _, [], _, _, h, _ => h.elim
theorem AL.one {v : V} {l : α} (h : R v l) : AL R [v] [l] := ⟨h, trivial⟩
theorem AL.snoc {xs : List V} {L : List α} {v : V} {l : α} (t : AL R xs L) (h : R v l) : AL R (xs ++ [v]) (L ++ [l]) := AL.app t (AL.one h)
theorem AL.perm {xs ys : List V} (h : ys.Perm xs) : ∀ L, AL R xs L → ∃ M, M.Perm L ∧ AL R ys M := by
  induction h with
  | nil => exact fun L t => ⟨L, List.Perm.refl _, t⟩
  | cons x p ih =>
    intro L t
    cases L with
    | nil => exact t.elim
    | cons l ls =>
      obtain ⟨h, t⟩ := t
      obtain ⟨M, p', t'⟩ := ih ls t
      exact ⟨l :: M, p'.cons l, h, t'⟩
  | swap x y p =>
    intro L t
    cases L with
    | nil => exact t.elim
    | cons l ls =>
      cases ls with
      | nil => exact t.2.elim
      | cons m ls =>
        obtain ⟨h, h2, t⟩ := t
        exact ⟨m :: l :: ls, List.Perm.swap .., h2, h, t⟩
  | trans p1 p2 ih1 ih2 =>
    intro L t
    obtain ⟨M, p, t1⟩ := ih2 L t
    obtain ⟨M2, p', t2⟩ := ih1 M t1
    exact ⟨M2, p'.trans p, t2⟩
end
/-! refs to tuples -/
abbrev TLr (H : Hp) : V → List Nat → Prop := fun v l => ∃ a, v = .ref a ∧ H a = some (.tup (vN l))
abbrev TL (H : Hp) : List V → List (List Nat) → Prop := AL (TLr H)
theorem TL.mono {H H' : Hp} (s : Same H H') {xs : List V} {L : List (List Nat)} (h : TL H xs L) : TL H' xs L := AL.imp (fun _ _ ⟨a, e, q⟩ => ⟨a, e, s _ _ q⟩) h
theorem TL.one {H : Hp} {a : Addr} {l : List Nat} (h : H a = some (.tup (vN l))) : TL H [.ref a] [l] := AL.one ⟨a, rfl, h⟩
abbrev OLr (H : Hp) : V → Option (List Nat) → Prop := fun v o => match o with
  | none => v = .non
  | some l => ∃ a, v = .ref a ∧ H a = some (.tup (vN l))
abbrev OL (H : Hp) : List V → List (Option (List Nat)) → Prop := AL (OLr H)
theorem OL.mono {H H' : Hp} (s : Same H H') {xs : List V} {L : List (Option (List Nat))} (h : OL H xs L) : OL H' xs L := AL.imp (fun _ o q => match o, q with
  | none, q => q
  | some _, ⟨a, e, q⟩ => ⟨a, e, s _ _ q⟩) h
theorem zadd_len (a b : List Nat) : (zadd a b).length = min a.length b.length := by unfold zadd; rw [List.length_zipWith]
theorem zadd_get {a b : List Nat} {i x y : Nat} (h1 : a[i]? = some x) (h2 : b[i]? = some y) : (zadd a b)[i]? = some ((x + y) % 2) := by
  unfold zadd; rw [List.getElem?_zipWith, h1, h2]
end K6

/-! KD3 -/
set_option Elab.async false
set_option linter.all false
set_option maxRecDepth 100000
set_option maxHeartbeats 4000000
namespace K6
open PySem PySem.Spec L2 KL
abbrev sMixed : Stmt := top 44
abbrev sFreeIn : Stmt := top 45
abbrev sMade : Stmt := top 46
abbrev sChoices : Stmt := top 47
def spMixed (K : PySem.W.Frag) : Sp := fun vs H Q _ => ∃ (t u : Addr) (p f : List Nat) (b : Nat), vs = [.ref t, .ref u, .int b] ∧ SqT K H t (vN p) ∧ SqT K H u (vN f) ∧ p.length ≤ 64 ∧ f.length ≤ 64 ∧ NewT H (vN (mixed p f b)) Q
def spFreeIn (K : PySem.W.Frag) : Sp := fun vs H Q _ => ∃ (t u : Addr) (p m : List Nat) (b : Nat), vs = [.ref t, .ref u, .int b] ∧ SqT K H t (vN p) ∧ SqT K H u (vN m) ∧ p.length ≤ 60 ∧ m.length ≤ 60 ∧
  match freeIn p m b with
  | none => ∀ H', Same H H' → Q .non H'
  | some c => NewT H (vN c) Q
theorem iteT' {c : Bool} {A B : Prop} (e : c = true) (h : A) : if c = true then A else B := by rw [if_pos e]; exact h
theorem iteF' {c : Bool} {A B : Prop} (e : c = false) (h : B) : if c = true then A else B := by rw [if_neg (by rw [e]; exact Bool.false_ne_true)]; exact h
theorem if_star {K : PySem.W.Frag} {c : Bool} {σ : St} {H : Hp} {i : Nat} {t : Addr} {xs : List V} {x0 : V} {Q : VK} (hi : σ[i]? = some (some (.ref t))) (hT : SqT K H t xs) (hz : xs.length ≤ 500)
    (k : ∀ p, H p = none → Q (.ref p) (upd H p (.tup (if c = true then x0 :: xs else xs ++ [x0])))) : if c = true then tTup (tCons (tC x0) (StX.tStar K (tVar i) tNil)) σ H Q else tTup (StX.tStar K (tVar i) (tCons (tC x0) tNil)) σ H Q := by
  by_cases e : c = true
  · simp only [e, if_true] at k ⊢
    refine ⟨_, hi, t, _, rfl, .inl hT, ?_, fun p hp => ?_⟩
    · rw [List.append_nil, List.length_cons]; exact Nat.le_trans (show xs.length + 1 ≤ 501 by omega) (by decide)
    · rw [List.append_nil]; exact k p hp
  · rw [if_neg e]
    refine ⟨_, hi, t, _, rfl, .inl hT, ?_, fun p hp => ?_⟩
    · rw [List.length_append]; exact Nat.le_trans (show xs.length + 1 ≤ 501 by omega) (by decide)
    · have := k p hp
      rw [if_neg e] at this; exact this
theorem cut_take (xs : List V) (n : Nat) : cutV xs none (some (n : Int)) = xs.take n := by
  unfold cutV
  rw [HT.sIx_none, HT.sIx_nat, List.drop_zero, Nat.sub_zero]
  by_cases h : n ≤ xs.length
  · rw [Nat.min_eq_left h]
  · rw [Nat.min_eq_right (by omega), List.take_of_length_le (by omega), List.take_of_length_le (by omega)]
theorem cut_drop (xs : List V) (n : Nat) : cutV xs (some (n : Int)) none = xs.drop n := by
  unfold cutV
  rw [HT.sIx_none, HT.sIx_nat]
  by_cases h : n ≤ xs.length
  · rw [Nat.min_eq_left h, List.take_of_length_le (by rw [List.length_drop]; exact Nat.le_refl _)]
  · rw [Nat.min_eq_right (by omega), List.drop_of_length_le (by omega), List.drop_of_length_le (by omega)]; simp
theorem if_slice {K : PySem.W.Frag} {c : Bool} {σ : St} {H : Hp} {i j n : Nat} {D : Addr} {xs : List V} {Q : VK} (hi : σ[i]? = some (some (.ref D))) (hj : σ[j]? = some (some (.int (n : Int)))) (hS : SqL K H D xs)
    (k : ∀ p, H p = none → Q (.ref p) (upd H p (.lst (if c = true then xs.take n else xs.drop 1)))) : if c = true then tSl (rSlL K) (tVar i) tNoPart (tPart (tVar j)) σ H Q else tSl (rSlL K) (tVar i) (tPart (tC (.int 1))) tNoPart σ H Q := by
  by_cases e : c = true
  · simp only [e, if_true] at k ⊢
    exact ⟨_, hi, _, hj, _, rfl, D, _, rfl, hS, fun p hp => by rw [cut_take]; exact k p hp⟩
  · rw [if_neg e]
    refine ⟨_, hi, _, rfl, D, _, rfl, hS, fun p hp => ?_⟩
    have := k p hp
    rw [if_neg e] at this
    have e1 : cutV xs (some (1 : Int)) none = xs.drop 1 := cut_drop xs 1
    rw [e1]; exact this
section
variable {P : Program} {w : World} {K : PySem.W.Frag} {mg : Str → Option Value} {base : Heap}
theorem scMixed : FnScope ["parities", "free", "burns", "off", "lit", "one", "other"] ["parities", "free", "burns"] (defScope sMixed) := ⟨rfl, rfl, rfl, by decide +kernel, rfl, by decide +kernel, by decide +kernel⟩
theorem ok_mixed_in (D : Df K mg "mixed_in" sMixed) (B : Bt mg) : Cal P w K mg base 1 "mixed_in" (spMixed K) := by
  refine cal (ps := ["parities", "free", "burns"]) D (fun _ _ _ _ _ _ us hl => match us, hl with | [_, _, _], _ => rfl) scMixed (fun vs H Q E h => ?_) (fun f cdv A outer s H vs Q E hr h => ?_)
  · obtain ⟨_, _, _, _, _, rfl, _⟩ := h; rfl
  · obtain ⟨t, u, p, f, b, rfl, ht, hu, hpl, hfl, k⟩ := h
    refine ⟨_, pss_cons (ps_asg (pe_ifExp (pt_cmpR op_eq (pv 2) pe_int (nomark _)) (pe_tup (pa_cons (pv 1) (pa_cons (pv 0) pa_nil))) (pe_tup (pa_cons (pv 0) (pa_cons (pv 1) pa_nil))))
        (pg_tup rfl (pgs_cons (pg_name (i := 3) scMixed.nd rfl (Or.inl rfl)) (pgs_cons (pg_name (i := 4) scMixed.nd rfl (Or.inl rfl)) pgs_nil))))
      (pss_one (ps_ret (pe_callTy call_tuple_of (by rfl) B.tuple (by decide +kernel) (pa_cons (pe_lc (own := [("one", 5), ("other", 6)]) (g := gTup K 2 (gCons (gName 5) (gCons (gName 6) gNil))) (tt := tYes) (by rfl) scMixed.nd
        (RZ.pi_zipA (by rfl) B.zip (pa_cons (pe_tup (StX.pa_star (pv 3) (pa_cons pe_int pa_nil))) (pa_cons (pe_tup (pa_cons pe_int (StX.pa_star (pv 4) pa_nil))) pa_nil)))
        (blkOk_by (own := [("one", 5), ("other", 6)]) (N := ["parities", "free", "burns", "off", "lit", "one", "other"]) (sc := defScope sMixed) (by decide +kernel))
        (fun _ _ _ _ _ => pg_tup rfl (pgs_cons (pg_name (i := 5) scMixed.nd rfl (Or.inl rfl)) (pgs_cons (pg_name (i := 6) scMixed.nd rfl (Or.inl rfl)) pgs_nil)))
        (fun _ _ _ _ _ => pts_nil)
        (fun _ _ _ _ _ => pe_op op_mod (pe_op op_add (pv 5) (pv 6)) pe_int)) pa_nil)))), ?_⟩
    refine ⟨_, rfl, rfl, _, rfl, if_pair (x := .ref u) (y := .ref t) (fun Q q => ⟨_, rfl, q⟩) (fun Q q => ⟨_, rfl, q⟩) fun p1 hp1 => ⟨p1, _, rfl, .of upd_same, rfl, _, _, rfl, _, _, rfl, rfl, ?_⟩⟩
    have key : ∃ (oa la : Addr) (O L : List Nat), (if decide (V.int (b : Int) = V.int 1) = true then V.ref u else V.ref t) = V.ref oa ∧ (if decide (V.int (b : Int) = V.int 1) = true then V.ref t else V.ref u) = V.ref la ∧ SqT K H oa (vN O) ∧ SqT K H la (vN L) ∧ O.length ≤ 64 ∧ L.length ≤ 64 ∧ mixed p f b = zadd (O ++ [0]) (0 :: L) := by
      unfold mixed
      by_cases e : b = 1
      · subst e
        exact ⟨u, t, f, p, rfl, rfl, hu, ht, hfl, hpl, rfl⟩
      · have e2 : ¬ (decide (V.int (b : Int) = V.int 1) = true) := fun z => e (by have := of_decide_eq_true z; injection this with this; omega)
        rw [if_neg e2, if_neg e2, if_neg e, if_neg e]
        exact ⟨t, u, p, f, rfl, rfl, ht, hu, hpl, hfl, rfl⟩
    obtain ⟨oa, la, O, L, e1, e2, hO, hL, lO, lL, em⟩ := key
    generalize (if decide (V.int (b : Int) = V.int 1) = true then V.ref u else V.ref t) = x1 at e1 ⊢
    generalize (if decide (V.int (b : Int) = V.int 1) = true then V.ref t else V.ref u) = x2 at e2 ⊢
    subst e1 e2
    have s1 : Same H (upd H p1 (.tup [V.ref oa, V.ref la])) := sm_upd (Same.refl H) hp1
    generalize (upd H p1 (.tup [V.ref oa, V.ref la])) = H1 at s1
    refine ⟨_, rfl, oa, _, rfl, .inl (sm_tup s1 hO), ?_, fun p2 hp2 => ?_⟩
    · rw [List.length_append, vN_len]; exact Nat.le_trans (show O.length + 1 ≤ 65 by omega) (by decide)
    have s2 := sm_upd (Same.refl H1) (o := .tup (vN O ++ [V.int 0])) hp2
    refine ⟨_, rfl, la, _, rfl, .inl (sm_tup (Same.trans s1 s2) hL), ?_, fun p3 hp3 => ?_⟩
    · rw [List.append_nil, List.length_cons, vN_len]; exact Nat.le_trans (show L.length + 1 ≤ 65 by omega) (by decide)
    have s3 := sm_upd (Same.refl _) (o := .tup (V.int 0 :: (vN L ++ []))) hp3
    have h2 : SqT K (upd (upd H1 p2 (.tup (vN O ++ [V.int 0]))) p3 (.tup (V.int 0 :: (vN L ++ [])))) p2 (vN (O ++ [0])) := .of (by rw [s3 _ _ upd_same, vN_app]; rfl)
    have h3 : SqT K (upd (upd H1 p2 (.tup (vN O ++ [V.int 0]))) p3 (.tup (V.int 0 :: (vN L ++ [])))) p3 (vN (0 :: L)) := .of (by rw [upd_same, List.append_nil]; rfl)
    have s4 : Same H _ := Same.trans (Same.trans s1 s2) s3
    generalize (upd (upd H1 p2 (.tup (vN O ++ [V.int 0]))) p3 (.tup (V.int 0 :: (vN L ++ [])))) = H3 at h2 h3 s4
    refine ⟨p2, p3, _, _, rfl, .inr ⟨h2, h3, fun D hD => ?_⟩⟩
    refine lc_map (walk_zipT rfl) (vN (zadd (O ++ [0]) (0 :: L))) (by rw [vN_len, vN_len, vN_len, zadd_len]) (by rw [vN_len]; simp; omega) hD (fun H' s => ⟨sm_tup s h2, sm_tup s h3⟩) ?_ ?_
    · rintro i x H4 H' R hi sm ⟨T, y, z, rfl, hT, rfl, hy, hz⟩ kR
      obtain ⟨y, hy', rfl⟩ := vN_get hy
      obtain ⟨z, hz', rfl⟩ := vN_get hz
      refine ⟨T, _, rfl, .of upd_same, rfl, _, _, rfl, _, _, rfl, rfl, rfl, _, rfl, _, rfl, _, _, rfl, rfl, _, _, rfl, rfl, (by show (0 : Int) < 2; decide), kR _ _ (sm_upd (Same.refl _) hT) ?_⟩
      rw [vN_at (zadd_get hy' hz')]; congr 2
    · intro H4 sm hd
      refine ⟨D, _, rfl, .inl ⟨SqL.of hd, fun q hq => ?_⟩⟩
      have s5 := Same.trans s4 sm
      exact k _ q (sm_upd s5 hq) (s5.free hq) (by rw [upd_same, em])
theorem scFree : FnScope ["parities", "mixed", "burns", "many", "found", "free", "each", "its"] ["parities", "mixed", "burns"] (defScope sFreeIn) := ⟨rfl, rfl, rfl, by decide +kernel, rfl, by decide +kernel, by decide +kernel⟩
theorem ok_free_in (D : Df K mg "free_in" sFreeIn) (B : Bt mg) (c1 : Cal P w K mg base 1 "mixed_in" (spMixed K)) : Cal P w K mg base 2 "free_in" (spFreeIn K) := by
  refine cal (ps := ["parities", "mixed", "burns"]) D (fun _ _ _ _ _ _ us hl => match us, hl with | [_, _, _], _ => rfl) scFree (fun vs H Q E h => ?_) (fun f cdv A outer s H vs Q E hr h => ?_)
  · obtain ⟨_, _, _, _, _, rfl, _⟩ := h; rfl
  · obtain ⟨t, u, p, m, b, rfl, ht, hu, hpl, hml, k⟩ := h
    refine ⟨_, pss_cons (ps_set (i := 3) scFree.nd rfl (Or.inl rfl) (pe_callB call_len_seq (by rfl) B.len (by decide +kernel) (pa_cons (pv 0) pa_nil)))
      (pss_cons (ps_setLc (i := 4) (own := [("each", 6), ("its", 7)]) (g := gTup K 2 (gCons (gName 6) (gCons (gName 7) gNil))) (tt := tYes) rfl scFree.nd rfl rfl (sw_true rfl rfl rfl (by decide +kernel))
        (RZ.pi_zipA (by rfl) B.zip (pa_cons (pv 1) (pa_cons (pe_ifExp (pt_cmpR op_eq (pv 2) pe_int (nomark _)) (pe_tup (pa_cons pe_int (StX.pa_star (pv 0) pa_nil))) (pe_tup (StX.pa_star (pv 0) (pa_cons pe_int pa_nil)))) pa_nil)))
        (blkOk_by (own := [("each", 6), ("its", 7)]) (N := ["parities", "mixed", "burns", "many", "found", "free", "each", "its"]) (sc := defScope sFreeIn) (by decide +kernel))
        (fun _ _ _ _ _ => pg_tup rfl (pgs_cons (pg_name (i := 6) scFree.nd rfl (Or.inl rfl)) (pgs_cons (pg_name (i := 7) scFree.nd rfl (Or.inl rfl)) pgs_nil)))
        (fun _ _ _ _ _ => pts_nil)
        (fun _ _ _ _ _ => pe_op op_mod (pe_op op_add (pv 6) (pv 7)) pe_int))
      (pss_cons (ps_set (i := 5) scFree.nd rfl (Or.inl rfl) (pe_callTy call_tuple_of (by rfl) B.tuple (by decide +kernel) (pa_cons (pe_ifExp (pt_cmpR op_eq (pv 2) pe_int (nomark _)) (pe_slice sl_list (pv 4) po_none (po_some (pv 3))) (pe_slice sl_list (pv 4) (po_some pe_int) po_none)) pa_nil)))
      (pss_one (ps_ret (pe_ifExp (pt_cmpR (op_eqD hr.units) (pc c1 hr (by decide) (by rfl) (pa_cons (pv 0) (pa_cons (pv 5) (pa_cons (pv 2) pa_nil)))) (pv 1) (nomark _)) (pv 5) pe_non))))), ?_⟩
    refine ⟨_, rfl, t, _, rfl, .inr ht, ?_⟩
    rw [vN_len]
    refine ⟨_, rfl, _, rfl, rfl, _, rfl, if_star rfl ht (by rw [vN_len]; omega) fun p1 hp1 => ?_⟩
    have eb : ∀ {α : Type} (x y : α), (if decide (V.int (b : Int) = V.int 1) = true then x else y) = if b = 1 then x else y := by
      intro α x y
      by_cases e : b = 1
      · subst e; rfl
      · rw [if_neg e, if_neg (fun z => e (by have := of_decide_eq_true z; injection this with this; omega))]
    rw [eb]
    have ez : (if b = 1 then V.int 0 :: vN p else vN p ++ [V.int 0]) = vN (if b = 1 then 0 :: p else p ++ [0]) := by
      split
      · rfl
      · rw [vN_app]; rfl
    rw [ez]
    have lz : (if b = 1 then 0 :: p else p ++ [0]).length = p.length + 1 := by split <;> simp
    have h1 : SqT K (upd H p1 (.tup (vN (if b = 1 then 0 :: p else p ++ [0])))) p1 (vN (if b = 1 then 0 :: p else p ++ [0])) := .of upd_same
    have s1 : Same H (upd H p1 (.tup (vN (if b = 1 then 0 :: p else p ++ [0])))) := sm_upd (Same.refl H) hp1
    generalize (upd H p1 (.tup (vN (if b = 1 then 0 :: p else p ++ [0])))) = H1 at s1 h1 ⊢
    have ef : freeIn p m b = if mixed p (if b = 1 then (zadd m (if b = 1 then 0 :: p else p ++ [0])).take p.length else (zadd m (if b = 1 then 0 :: p else p ++ [0])).drop 1) b = m then some (if b = 1 then (zadd m (if b = 1 then 0 :: p else p ++ [0])).take p.length else (zadd m (if b = 1 then 0 :: p else p ++ [0])).drop 1) else none := rfl
    generalize (if b = 1 then 0 :: p else p ++ [0]) = z at h1 lz ef
    refine ⟨u, p1, _, _, rfl, .inr ⟨sm_tup s1 hu, h1, fun D hD => ?_⟩⟩
    refine lc_map (walk_zipT rfl) (vN (zadd m z)) (by rw [vN_len, vN_len, vN_len, zadd_len]) (by rw [vN_len, vN_len]; omega) hD (fun H' s => ⟨sm_tup s (sm_tup s1 hu), sm_tup s h1⟩) ?_ ?_
    · rintro i x H4 H' R hi sm ⟨T, y, z, rfl, hT, rfl, hy, hz⟩ kR
      obtain ⟨y, hy', rfl⟩ := vN_get hy
      obtain ⟨z, hz', rfl⟩ := vN_get hz
      refine ⟨T, _, rfl, .of upd_same, rfl, _, _, rfl, _, _, rfl, rfl, rfl, _, rfl, _, rfl, _, _, rfl, rfl, _, _, rfl, rfl, (by show (0 : Int) < 2; decide), kR _ _ (sm_upd (Same.refl _) hT) ?_⟩
      rw [vN_at (zadd_get hy' hz')]; congr 2
    · intro H4 sm hd
      have s4 := Same.trans s1 sm
      refine ⟨_, rfl, rfl, _, rfl, if_slice (n := p.length) rfl rfl (SqL.of hd) fun p2 hp2 => ?_⟩
      rw [eb]
      have e2 : (if b = 1 then (vN (zadd m z)).take p.length else (vN (zadd m z)).drop 1) = vN (if b = 1 then (zadd m z).take p.length else (zadd m z).drop 1) := by
        split
        · exact (List.map_take ..).symm
        · exact (List.map_drop ..).symm
      rw [e2]
      have lF : (if b = 1 then (zadd m z).take p.length else (zadd m z).drop 1).length ≤ 64 := by
        split
        · rw [List.length_take]; omega
        · rw [List.length_drop, zadd_len]; omega
      generalize (if b = 1 then (zadd m z).take p.length else (zadd m z).drop 1) = F at lF ef
      have s5 := sm_upd s4 hp2 (o := .lst (vN F))
      refine ⟨p2, _, rfl, .inl ⟨SqL.of upd_same, fun p3 hp3 => ?_⟩⟩
      have s6 := sm_upd s5 hp3 (o := .tup (vN F))
      have hn3 := s5.free hp3
      have h6 : (upd (upd H4 p2 (.lst (vN F))) p3 (.tup (vN F))) p3 = some (.tup (vN F)) := upd_same
      generalize (upd (upd H4 p2 (.lst (vN F))) p3 (.tup (vN F))) = H6 at s6 h6
      refine ⟨_, rfl, _, rfl, _, rfl, t, p3, p, F, b, rfl, sm_tup s6 ht, .of h6, by omega, lF, fun H7 q s7 hq h7 => ?_⟩
      refine ⟨_, rfl, vD _, vD _, dp_vN (.of h7), dp_vN (sm_tup (Same.trans s6 s7) hu), vD_shaped _, vD_shaped _, _, rfl, ?_⟩
      rw [eqv_vD]
      by_cases e : mixed p F b = m
      · rw [if_pos e] at ef
        rw [ef] at k
        exact iteT' (decide_eq_true e) ⟨_, rfl, k _ p3 (Same.trans s6 s7) hn3 (s7 _ _ h6)⟩
      · rw [if_neg e] at ef
        rw [ef] at k
        exact iteF' (decide_eq_false e) (k _ (Same.trans s6 s7))
end
end K6

/-! KD4 -/
set_option Elab.async false
set_option linter.all false
set_option maxRecDepth 100000
set_option maxHeartbeats 4000000
namespace K6
open PySem PySem.Spec L2 KL
def forB : Stmt → Nat → Stmt
  | .For _ _ b _ _, i => b.getD i (.Pass ⟨0, 0, 0, 0⟩)
  | s, _ => s
def spMade : Sp := fun vs H Q _ => ∃ n : Nat, vs = [.int n] ∧ 2 ≤ n ∧ n ≤ 9 ∧ ∀ (H' : Hp) (q : Addr) (xs : List V), Same H H' → H q = none → H' q = some (.lst xs) → TL H' xs (made n) → Q (.ref q) H'
def spChoices (K : PySem.W.Frag) : Sp := fun vs H Q _ => ∃ (t : Addr) (p : List Nat) (b : Nat), vs = [.ref t, .int b] ∧ SqT K H t (vN p) ∧ p.length < 7 ∧ (∀ x ∈ p, x < 2) ∧ b < 2 ∧
  ∀ (H' : Hp) (q : Addr) (xs : List V), Same H H' → H q = none → H' q = some (.tup xs) → TL H' xs (ch p b) → Q (.ref q) H'
def rTupOf (K : PySem.W.Frag) : List V → Hp → VK → Prop := fun xs H Q => ∃ p ys, xs = [.ref p] ∧ ((SqL K H p ys ∧ ∀ l, H l = none → Q (.ref l) (upd H l (.tup ys))) ∨ (SqT K H p ys ∧ Q (.ref p) H))
theorem cr_tupOf {X : Cx} : CallR X (.type "tuple") (rTupOf X.K) := call_tuple_of
theorem rep_eq {K : PySem.W.Frag} {x y : V} {k : Nat} {H : Hp} {Q : VK} (e : y = .int (k : Int)) (h : rRepA K x (.int (k : Int)) H Q) : rRepA K x y H Q := e ▸ h
theorem madeK_len {n i : Nat} (h : i ≤ 2) : (madeK n i).length ≤ 4 := by
  have : i = 0 ∨ i = 1 ∨ i = 2 := by omega
  rcases this with rfl | rfl | rfl <;> simp [madeK]
theorem gateB_len {n h : Nat} (hh : h + 2 ≤ n) : (gateB n h).length = n - 1 := by
  unfold gateB; rw [List.length_append, List.length_replicate, List.length_map, List.length_range]; omega
section
variable {P : Program} {w : World} {K : PySem.W.Frag} {mg : Str → Option Value} {base : Heap}
theorem scMade : FnScope ["lamps", "still", "found", "hands", "bits", "each", "one", "other"] ["lamps"] (defScope sMade) := ⟨rfl, rfl, rfl, by decide +kernel, rfl, by decide +kernel, by decide +kernel⟩
theorem ok_made (D : Df K mg "made_by_one" sMade) (B : Bt mg) (c1 : Cal P w K mg base 2 "gate_bits" spGate) : Cal P w K mg base 3 "made_by_one" spMade := by
  refine cal (ps := ["lamps"]) D (fun _ _ _ _ _ _ us hl => match us, hl with | [_], _ => rfl) scMade (fun vs H Q E h => ?_) (fun f cdv A outer s H vs Q E hr h => ?_)
  · obtain ⟨_, rfl, _⟩ := h; rfl
  · obtain ⟨n, rfl, h2, h9, k⟩ := h
    refine ⟨_, pss_cons (ps_set (i := 1) scMade.nd rfl (Or.inl rfl) (pe_op op_repA (pe_tup (pa_cons pe_int pa_nil)) (pe_op op_sub (pv 0) pe_int)))
      (pss_cons (ps_set (i := 2) scMade.nd rfl (Or.inl rfl) (pe_lst (pa_cons (pv 1) pa_nil)))
      (pss_cons (ps_for PassesOwn.never rfl (pi_range1 (by rfl) B.range (pa_cons (pe_op op_add (pe_callB (call_min2 rfl) (by rfl) B.min (by decide +kernel) (pa_cons pe_int (pa_cons (pe_op op_sub (pv 0) pe_int) pa_nil))) pe_int) pa_nil)) (pg_name (i := 3) scMade.nd rfl (Or.inl rfl))
        (pss_cons (ps_set (i := 4) scMade.nd rfl (Or.inr rfl) (pc c1 hr (by decide) (by rfl) (pa_cons (pv 0) (pa_cons (pv 3) pa_nil))))
        (pss_one (ps_set (i := 2) scMade.nd rfl (Or.inl rfl) (pe_op op_cat (pv 2) (pe_lc (own := [("each", 5)]) (g := gName 5) (tt := tYes) (by rfl) scMade.nd (pi_list (pv 2))
          (blkOk_by (own := [("each", 5)]) (N := ["lamps", "still", "found", "hands", "bits", "each", "one", "other"]) (sc := defScope sMade) (by decide +kernel))
          (fun _ _ _ _ _ => pg_name (i := 5) scMade.nd rfl (Or.inl rfl)) (fun _ _ _ _ _ => pts_nil)
          (fun _ _ _ _ _ => pe_callTy (T := "tuple") (r := rTupOf K) cr_tupOf (by rfl) B.tuple (by decide +kernel) (pa_cons (pe_lc (wi := RZ.iZipA K (tCons (tVar 4) (tCons (tVar 5) tNil))) (own := [("one", 6), ("other", 7)]) (g := gTup K 2 (gCons (gName 6) (gCons (gName 7) gNil))) (tt := tYes) (by rfl) scMade.nd
            (RZ.pi_zipA (by rfl) B.zip (pa_cons (pv 4) (pa_cons (pv 5) pa_nil)))
            (blkOk_by (own := [("one", 6), ("other", 7)]) (N := ["lamps", "still", "found", "hands", "bits", "each", "one", "other"]) (sc := relS (lcs (rightE (retE (forB (stE sMade 2) 1)))) (defScope sMade)) (by decide +kernel))
            (fun _ _ _ _ _ => pg_tup rfl (pgs_cons (pg_name (i := 6) scMade.nd rfl (Or.inl rfl)) (pgs_cons (pg_name (i := 7) scMade.nd rfl (Or.inl rfl)) pgs_nil)))
            (fun _ _ _ _ _ => pts_nil) (fun _ _ _ _ _ => pe_op op_mod (pe_op op_add (pv 6) (pv 7)) pe_int)) pa_nil))))))))
      (pss_one (ps_ret (pv 2))))), ?_⟩
    refine ⟨by decide, fun p0 hp0 => ⟨_, rfl, _, _, rfl, rfl, ?_⟩⟩
    obtain ⟨m, rfl⟩ : ∃ m, n = m + 1 := ⟨n - 1, by omega⟩
    refine rep_eq (k := m) (congrArg V.int (show ((m + 1 : Nat) : Int) - 1 = (m : Int) by omega)) (rep_any upd_same (.of upd_same) (by simp) (by omega) (by decide) fun a H1 sm ha h1 => ?_)
    rw [flat_rep] at h1
    have s1 : Same H H1 := Same.trans (sm_upd (Same.refl H) hp0) sm
    refine ⟨_, rfl, by show (1 : Nat) ≤ sizeLine; decide, fun p1 hp1 => ?_⟩
    have s2 := sm_upd s1 hp1 (o := .lst [V.ref a])
    have hmin : (if ((m + 1 : Nat) : Int) - 2 < 1 then ((m + 1 : Nat) : Int) - 2 else 1) + 1 = ((min 1 (m + 1 - 2) + 1 : Nat) : Int) := by
      split <;> omega
    have h62 := in62 (N := min 1 (m + 1 - 2) + 1) (by omega)
    refine ⟨_, rfl, _, _, rfl, rfl, _, _, rfl, _, _, rfl, rfl, _, congrArg (fun z => [V.int z]) hmin, h62.1, h62.2, ?_⟩
    have hs : Same H (upd H1 p1 (.lst [V.ref a])) := s2
    have hF0 : H p1 = none := s1.free hp1
    have hx0 : (upd H1 p1 (.lst [V.ref a])) p1 = some (.lst [V.ref a]) := upd_same
    have hT0 : TL (upd H1 p1 (.lst [V.ref a])) [V.ref a] (madeK (m + 1) 0) := TL.one (sm_upd (Same.refl H1) hp1 _ _ h1)
    generalize (upd H1 p1 (.lst [V.ref a])) = H2 at hs hx0 hT0
    have em : made (m + 1) = madeK (m + 1) (min 1 (m + 1 - 2) + 1) := rfl
    have hle : min 1 (m + 1 - 2) + 1 ≤ 2 := by omega
    have hle2 : ∀ i, i < min 1 (m + 1 - 2) + 1 → i + 2 ≤ m + 1 := by omega
    rw [em] at k
    generalize (min 1 (m + 1 - 2) + 1) = N at k hle hle2
    refine for_range (fun i σ H' => (∃ F x y, σ = [some (.int ((m + 1 : Nat) : Int)), some (.ref a), some (.ref F), x, y, none, none, none] ∧ H F = none ∧ ∃ xs, H' F = some (.lst xs) ∧ TL H' xs (madeK (m + 1) i)) ∧ Same H H') ⟨⟨p1, _, _, rfl, hF0, _, hx0, hT0⟩, hs⟩ ?_ ?_
    · rintro i σ H3 hi ⟨⟨F, x, y, rfl, hF, xs, hx, hT⟩, s3⟩
      rw [Int.toNat_natCast] at hi
      have hi2 := hle2 i hi
      refine ⟨_, rfl, _, rfl, m + 1, i, by show [V.int _, V.int (0 + (i : Int))] ++ [] = _; rw [Int.zero_add]; rfl, h9, hi2, fun H4 g s4 hg h4 => ?_⟩
      refine ⟨_, rfl, _, rfl, F, rfl, ⟨xs, .of (s4 _ _ hx)⟩, fun D hD => ?_⟩
      have hlK := madeK_len (n := m + 1) (i := i) (by omega)
      have hl := hT.len
      refine lc_it (walk_list (xs := xs)) (fun j H' => Same H4 H' ∧ ∃ ys, H' D = some (.lst ys) ∧ TL H' ys (((madeK (m + 1) i).map fun each => zadd (gateB (m + 1) i) each).take j)) ⟨sm_upd (Same.refl _) hD, [], upd_same, trivial⟩ (fun j H' _ q => .of (q.1 _ _ (s4 _ _ hx))) ?_ ?_
      · rintro j z H5 H5' hj ⟨s5, ys, hy, hYs⟩ ⟨rfl, hz⟩
        have hT5 : TL H5' xs (madeK (m + 1) i) := hT.mono (Same.trans s4 s5)
        obtain ⟨l, hl1, c, rfl, hc⟩ := hT5.get hz
        refine ⟨rfl, _, rfl, _, rfl, g, c, _, _, rfl, .inr ⟨.of (s5 _ _ h4), .of hc, fun D2 hD2 => ?_⟩⟩
        refine lc_map (walk_zipT rfl) (vN (zadd (gateB (m + 1) i) l)) (by rw [vN_len, vN_len, vN_len, zadd_len]) (by rw [vN_len, vN_len, gateB_len hi2]; omega) hD2 (fun H' s => ⟨.of (s _ _ (s5 _ _ h4)), .of (s _ _ hc)⟩) ?_ ?_
        · rintro i x H6 H6' R hi sm ⟨T, y, z, rfl, hT, rfl, hy, hz⟩ kR
          obtain ⟨y, hy', rfl⟩ := vN_get hy
          obtain ⟨z, hz', rfl⟩ := vN_get hz
          refine ⟨T, _, rfl, .of upd_same, rfl, _, _, rfl, _, _, rfl, rfl, rfl, _, rfl, _, rfl, _, _, rfl, rfl, _, _, rfl, rfl, (by show (0 : Int) < 2; decide), kR _ _ (sm_upd (Same.refl _) hT) ?_⟩
          rw [vN_at (zadd_get hy' hz')]; congr 2
        · intro H6 s6 hd6
          refine ⟨D2, _, rfl, .inl ⟨SqL.of hd6, fun q hq => ?_⟩⟩
          have s7 := sm_upd s6 hq (o := .tup (vN (zadd (gateB (m + 1) i) l)))
          refine ⟨ys, s7 _ _ hy, small1000 ?_, sm_set (Same.trans s5 s7) hD, ys ++ [.ref q], upd_same, ?_⟩
          · rw [hYs.len, List.length_take, List.length_map]; omega
          · have e1 : (((madeK (m + 1) i).map fun each => zadd (gateB (m + 1) i) each).take (j + 1)) = (((madeK (m + 1) i).map fun each => zadd (gateB (m + 1) i) each).take j) ++ [zadd (gateB (m + 1) i) l] := by
              rw [List.take_succ, List.getElem?_map, hl1]; rfl
            have s8 : ∀ b u, b ≠ D → (upd H6 q (.tup (vN (zadd (gateB (m + 1) i) l)))) b = some u → (upd (upd H6 q (.tup (vN (zadd (gateB (m + 1) i) l)))) D (.lst (ys ++ [.ref q]))) b = some u := fun b u hb e => by rw [upd_ne hb]; exact e
            rw [e1]
            refine AL.snoc (AL.imp ?_ hYs) ⟨q, rfl, s8 _ _ ?_ upd_same⟩
            · rintro v l ⟨a, rfl, ha⟩
              refine ⟨a, rfl, s8 _ _ (fun e => ?_) (s7 _ _ ha)⟩
              rw [e, hy] at ha; cases ha
            · intro e
              have := s7 _ _ hy
              rw [← e, upd_same] at this; cases this
      · rintro H5 ⟨s5, ys, hy, hYs⟩
        rw [List.take_of_length_le (by rw [List.length_map]; omega)] at hYs
        have s35 := Same.trans s4 s5
        refine ⟨F, D, xs, ys, rfl, rfl, s35 _ _ hx, hy, ?_, fun q hq => ?_⟩
        · rw [hl, hYs.len, List.length_map]; exact Nat.le_trans (show _ ≤ 8 by omega) (by decide)
        · have s6 := sm_upd s35 hq (o := .lst (xs ++ ys))
          have s6' := sm_upd (Same.refl H5) hq (o := .lst (xs ++ ys))
          refine ⟨⟨q, _, _, rfl, s3.free (s35.free hq), _, upd_same, ?_⟩, Same.trans s3 s6⟩
          exact AL.app (hT.mono s6) (hYs.mono s6')
    · rintro σ H3 ⟨⟨F, x, y, rfl, hF, xs, hx, hT⟩, s3⟩
      rw [Int.toNat_natCast] at hT
      exact ⟨_, rfl, k _ F xs s3 hF hx hT⟩
theorem scChoices : FnScope ["parities", "burns", "some", "mixed", "free"] ["parities", "burns"] (defScope sChoices) := ⟨rfl, rfl, rfl, by decide +kernel, rfl, by decide +kernel, by decide +kernel⟩
end
end K6

/-! KD5 -/
set_option Elab.async false
set_option linter.all false
set_option maxRecDepth 100000
set_option maxHeartbeats 4000000
namespace K6
open PySem PySem.Spec L2 KL
def rSortC (K : PySem.W.Frag) : List V → Hp → VK → Prop := fun vs H Q => rSort1 K vs H Q ∨ ∃ d B, 1 ≤ d ∧ rSortU K d B vs H Q
theorem cr_sortC {X : Cx} : CallR X (.builtin "sorted") (rSortC X.K) := by
  intro pins s σ H vs us Q I r h
  rcases h with h | ⟨d, B, hd, h⟩
  · exact cr_sort1 pins s σ H vs us Q I r h
  · exact cr_sortT hd pins s σ H vs us Q I r h
theorem code_vI : ∀ l : List Nat, TS.code 2 (vI l) = ((KL.code l : Nat) : Int)
  | [] => rfl
  | x :: l => by
    have ih := code_vI l
    show (x : Int) * 2 ^ (vI l).length + TS.code 2 (vI l) = ((x * 2 ^ l.length + KL.code l : Nat) : Int)
    rw [ih, List.length_map]
    push_cast
    rfl
theorem tupI_of {K : PySem.W.Frag} {H : Hp} {a : Addr} {l : List Nat} (h : H a = some (.tup (vN l))) : TupI K H (.ref a) (vI l) := ⟨a, rfl, .of (by rw [h, vN_vI])⟩
theorem pw_code {K : PySem.W.Frag} {H : Hp} : ∀ {ys : List V} {M : List (List Nat)}, TL H ys M → ys.Pairwise (fun x y => ∀ n m, TupI K H x n → TupI K H y m → TS.code 2 n ≤ TS.code 2 m) → M.Pairwise fun a b => KL.code a ≤ KL.code b
  | [], [], _, _ => List.Pairwise.nil
  | v :: vs, l :: ls, ⟨⟨a, e, ha⟩, t⟩, h => by
    obtain ⟨h1, h2⟩ := List.pairwise_cons.mp h
    refine List.Pairwise.cons (fun m hm => ?_) (pw_code t h2)
    have : ∃ b, .ref b ∈ vs ∧ H b = some (.tup (vN m)) := by
      clear h h1 h2 ha
      induction vs generalizing ls with
      | nil => cases ls with
        | nil => cases hm
        | cons _ _ => exact t.elim
      | cons w ws ih => cases ls with
        | nil => exact t.elim
        | cons k ks =>
          obtain ⟨⟨b, eb, hb⟩, t⟩ := t
          rcases List.mem_cons.mp hm with rfl | hm
          · exact ⟨b, by rw [eb]; exact List.mem_cons_self, hb⟩
          · obtain ⟨c, hc, hcb⟩ := ih ks t hm
            exact ⟨c, List.mem_cons_of_mem _ hc, hcb⟩
    obtain ⟨b, hb, hbm⟩ := this
    have := h1 _ hb (vI l) (vI m) (by rw [e]; exact tupI_of ha) (tupI_of hbm)
    rw [code_vI, code_vI] at this
    omega
  | [], _ :: _, h, _ => h.elim
  | _ :: _, [], h, _ => h.elim
theorem mem_TL {H : Hp} : ∀ {ys : List V} {M : List (List Nat)} {x : V}, TL H ys M → x ∈ ys → ∃ a l, x = .ref a ∧ l ∈ M ∧ H a = some (.tup (vN l)) := by
  intro ys M x h hx
  obtain ⟨i, hi⟩ := List.mem_iff_getElem?.mp hx
  obtain ⟨l, hl, a, e, q⟩ := AL.get h hi
  exact ⟨a, l, e, List.mem_iff_getElem?.mpr ⟨i, hl⟩, q⟩
theorem chU_nil {b : Nat} (hb : b < 2) : (chU [] b).length ≤ 1 := by
  have : b = 0 ∨ b = 1 := by omega
  rcases this with rfl | rfl <;> decide +kernel
theorem srt_one {l : List (List Nat)} (h : l.length ≤ 1) : srt l = l := by
  cases l with
  | nil => rfl
  | cons x l => cases l with
    | nil => rfl
    | cons _ _ => simp at h
theorem chU_map (p : List Nat) (b : Nat) : chU p b = ((made (p.length + 2)).map fun m => freeIn p m b).filterMap id := by
  unfold chU; rw [List.filterMap_map]; rfl
theorem madeK_el {n i : Nat} (hi : i ≤ 2) (h2 : ∀ j, j < i → j + 2 ≤ n) : ∀ l ∈ madeK n i, l.length = n - 1 := by
  induction i with
  | zero => intro l hl; simp [madeK] at hl; subst hl; simp
  | succ i ih =>
    intro l hl
    have ih := ih (by omega) fun j hj => h2 j (by omega)
    rcases List.mem_append.mp hl with hl | hl
    · exact ih l hl
    · obtain ⟨z, hz, rfl⟩ := List.mem_map.mp hl
      rw [zadd_len, gateB_len (h2 i (by omega)), ih z hz]; omega
theorem made_el {n : Nat} (hn : 2 ≤ n) : ∀ l ∈ made n, l.length = n - 1 := madeK_el (by omega) (by omega)
theorem made_len (n : Nat) : (made n).length ≤ 4 := madeK_len (by omega)
section
variable {P : Program} {w : World} {K : PySem.W.Frag} {mg : Str → Option Value} {base : Heap}
theorem ok_choices (D : Df K mg "choices_in" sChoices) (B : Bt mg) (c1 : Cal P w K mg base 2 "free_in" (spFreeIn K)) (c2 : Cal P w K mg base 3 "made_by_one" spMade) : Cal P w K mg base 4 "choices_in" (spChoices K) := by
  refine cal (ps := ["parities", "burns"]) D (fun _ _ _ _ _ _ us hl => match us, hl with | [_, _], _ => rfl) scChoices (fun vs H Q E h => ?_) (fun f cdv A outer s H vs Q E hr h => ?_)
  · obtain ⟨_, _, _, rfl, _⟩ := h; rfl
  · obtain ⟨t, p, b, rfl, ht, h7, hp, hb, k⟩ := h
    refine ⟨_, pss_cons (ps_setLc (i := 2) (own := [("mixed", 3)]) (g := gName 3) (tt := tYes) rfl scChoices.nd rfl rfl (sw_true rfl rfl rfl (by decide +kernel))
        (pi_list (pc c2 hr (by decide) (by rfl) (pa_cons (pe_op op_add (pe_callB call_len_seq (by rfl) B.len (by decide +kernel) (pa_cons (pv 0) pa_nil)) pe_int) pa_nil)))
        (blkOk_by (own := [("mixed", 3)]) (N := ["parities", "burns", "some", "mixed", "free"]) (sc := defScope sChoices) (by decide +kernel))
        (fun _ _ _ _ _ => pg_name (i := 3) scChoices.nd rfl (Or.inl rfl)) (fun _ _ _ _ _ => pts_nil)
        (fun _ _ _ _ _ => pc c1 hr (by decide) (by rfl) (pa_cons (pv 0) (pa_cons (pv 3) (pa_cons (pv 1) pa_nil)))))
      (pss_one (ps_ret (pe_callTy cr_tupOf (by rfl) B.tuple (by decide +kernel) (pa_cons (pe_callB cr_sortC (by rfl) B.sorted (by decide +kernel) (pa_cons (pe_lc (own := [("free", 4)]) (g := gName 4) (by rfl) scChoices.nd (pi_list (pv 2))
        (blkOk_by (own := [("free", 4)]) (N := ["parities", "burns", "some", "mixed", "free"]) (sc := defScope sChoices) (by decide +kernel))
        (fun _ _ _ _ _ => pg_name (i := 4) scChoices.nd rfl (Or.inl rfl)) (fun _ _ _ _ _ => pts_one (pt_cmp (pc_notN (pv 4)) rfl))
        (fun _ _ _ _ _ => pv 4)) pa_nil)) pa_nil)))), ?_⟩
    refine ⟨_, rfl, t, _, rfl, .inr ht, _, _, rfl, rfl, p.length + 2, ?_, by omega, by omega, fun H1 F xs s1 hF hx hT => ?_⟩
    · rw [vN_len]; rfl
    have hM := made_len (p.length + 2)
    have hel := made_el (n := p.length + 2) (by omega)
    have hch : ch p b = srt (((made (p.length + 2)).map fun m => freeIn p m b).filterMap id) := by unfold ch; rw [chU_map]
    have hUok := chU_ok h7 hp hb
    rw [chU_map] at hUok
    have hU1 : p.length = 0 → (((made (p.length + 2)).map fun m => freeIn p m b).filterMap id).length ≤ 1 := by
      intro e
      have : p = [] := List.length_eq_zero_iff.mp e
      subst this
      rw [← chU_map]; exact chU_nil hb
    generalize made (p.length + 2) = M at hT hM hel hch hUok hU1
    refine ⟨F, rfl, ⟨xs, .of hx⟩, fun D hD => ?_⟩
    have hl := hT.len
    refine lc_it (walk_list (xs := xs)) (fun j H' => Same H1 H' ∧ ∃ ys, H' D = some (.lst ys) ∧ OL H' ys ((M.map fun m => freeIn p m b).take j)) ⟨sm_upd (Same.refl _) hD, [], upd_same, trivial⟩ (fun j H' _ q => .of (q.1 _ _ hx)) ?_ ?_
    · rintro j z H5 H5' hj ⟨s5, ys, hy, hYs⟩ ⟨rfl, hz⟩
      have hT5 : TL H5' xs M := hT.mono s5
      obtain ⟨l, hl1, c, rfl, hc⟩ := hT5.get hz
      have s05 := Same.trans s1 s5
      have e1 : ((M.map fun m => freeIn p m b).take (j + 1)) = ((M.map fun m => freeIn p m b).take j) ++ [freeIn p l b] := by
        rw [List.take_succ, List.getElem?_map, hl1]; rfl
      have hly : ys.length ≤ 1000 := by rw [hYs.len, List.length_take, List.length_map]; omega
      refine ⟨rfl, _, rfl, _, rfl, _, rfl, t, c, p, l, b, rfl, sm_tup s05 ht, .of hc, by omega, by have := hel l (List.mem_iff_getElem?.mpr ⟨j, hl1⟩); omega, ?_⟩
      cases ef : freeIn p l b with
      | none =>
        intro H6 s6
        refine ⟨ys, s6 _ _ hy, small1000 hly, sm_set (Same.trans s5 s6) hD, ys ++ [.non], upd_same, ?_⟩
        rw [e1, ef]
        refine AL.snoc (AL.imp ?_ (hYs.mono s6)) rfl
        rintro v (_ | l) h
        · exact h
        · obtain ⟨a, e, ha⟩ := h
          refine ⟨a, e, ?_⟩
          have : a ≠ D := fun z => by rw [z, s6 _ _ hy] at ha; cases ha
          rw [upd_ne this]; exact ha
      | some r =>
        intro H6 q s6 hq hq6
        refine ⟨ys, s6 _ _ hy, small1000 hly, sm_set (Same.trans s5 s6) hD, ys ++ [.ref q], upd_same, ?_⟩
        rw [e1, ef]
        have hne : ∀ a u, H6 a = some (.tup u) → a ≠ D := fun a u ha z => by rw [z, s6 _ _ hy] at ha; cases ha
        refine AL.snoc (AL.imp ?_ (hYs.mono s6)) ⟨q, rfl, by rw [upd_ne (hne _ _ hq6)]; exact hq6⟩
        rintro v (_ | l) h
        · exact h
        · obtain ⟨a, e, ha⟩ := h
          exact ⟨a, e, by rw [upd_ne (hne _ _ ha)]; exact ha⟩
    · rintro H5 ⟨s5, ys, hy, hYs⟩
      rw [List.take_of_length_le (by rw [List.length_map]; omega)] at hYs
      have s05 := Same.trans s1 s5
      have hUl : ((M.map fun m => freeIn p m b).filterMap id).length ≤ 4 := by
        have := List.length_filterMap_le (f := id) (l := M.map fun m => freeIn p m b)
        rw [List.length_map] at this; omega
      have hly : ys.length ≤ 4 := by rw [hYs.len, List.length_map]; exact hM
      generalize (M.map fun m => freeIn p m b) = O at hYs hch hUok hU1 hUl
      refine ⟨_, rfl, D, rfl, ⟨ys, .of hy⟩, fun D2 hD2 => ?_⟩
      refine lc_it (walk_list (xs := ys)) (fun j H' => Same H5 H' ∧ ∃ zs, H' D2 = some (.lst zs) ∧ TL H' zs ((O.take j).filterMap id) ∧ zs.length ≤ j) ⟨sm_upd (Same.refl _) hD2, [], upd_same, trivial, Nat.le_refl _⟩ (fun j H' _ q => .of (q.1 _ _ hy)) ?_ ?_
      · rintro j z H6 H6' hj ⟨s6, zs, hz, hZs, hzl⟩ ⟨rfl, hyj⟩
        have hO6 : OL H6' ys O := hYs.mono s6
        obtain ⟨o, ho, hzo⟩ := hO6.get hyj
        have e1 : (O.take (j + 1)).filterMap id = (O.take j).filterMap id ++ o.toList := by
          rw [List.take_succ, ho, List.filterMap_append]
          cases o <;> rfl
        cases o with
        | none =>
          have hz' : z = .non := hzo
          subst hz'
          rw [show (none : Option (List Nat)).toList = [] from rfl, List.append_nil] at e1
          exact ⟨rfl, _, rfl, _, rfl, iteF ⟨s6, zs, hz, by rw [e1]; exact hZs, by omega⟩⟩
        | some l =>
          obtain ⟨a, rfl, ha⟩ := hzo
          refine ⟨rfl, _, rfl, _, rfl, iteT ⟨_, rfl, zs, hz, small1000 (by omega), sm_set s6 hD2, zs ++ [.ref a], upd_same, ?_, by rw [List.length_append]; simp; omega⟩⟩
          rw [e1]
          have hne : ∀ a u, H6' a = some (.tup u) → a ≠ D2 := fun a u ha z => by rw [z, hz] at ha; cases ha
          refine AL.snoc (AL.imp ?_ hZs) ⟨a, rfl, by rw [upd_ne (hne _ _ ha)]; exact ha⟩
          rintro v l ⟨a, e, ha⟩
          exact ⟨a, e, by rw [upd_ne (hne _ _ ha)]; exact ha⟩
      · rintro H6 ⟨s6, zs, hz, hZs, hzl⟩
        rw [List.take_of_length_le (by rw [hYs.len]; exact Nat.le_refl _)] at hZs
        have s06 := Same.trans s05 s6
        by_cases e0 : p.length = 0
        · have hz1 : zs.length ≤ 1 := by rw [hZs.len]; exact hU1 e0
          refine .inl ⟨D2, zs, rfl, .of hz, hz1, fun q hq => ?_⟩
          have s7 := sm_upd s06 hq (o := .lst zs)
          have s7' := sm_upd (Same.refl H6) hq (o := .lst zs)
          refine ⟨q, _, rfl, .inl ⟨SqL.of upd_same, fun r hr => ?_⟩⟩
          have s8' := sm_upd s7' hr (o := .tup zs)
          refine k _ r zs (sm_upd s7 hr) (s7.free hr) upd_same ?_
          rw [hch, srt_one (hU1 e0)]
          exact hZs.mono s8'
        · refine .inr ⟨p.length, 2, by omega, D2, zs, rfl, .of hz, by omega, ?_, fun ws q hpm hpw hq => ?_⟩
          · intro x hx
            obtain ⟨a, l, rfl, hl, ha⟩ := mem_TL hZs hx
            obtain ⟨h1, h2⟩ := hUok l hl
            refine ⟨vI l, tupI_of ha, by rw [List.length_map]; exact h1, fun m hm => ?_⟩
            obtain ⟨y, hy, rfl⟩ := List.mem_map.mp hm
            have := h2 y hy
            omega
          · obtain ⟨M2, hp2, hW⟩ := AL.perm hpm _ hZs
            have e2 : M2 = srt (O.filterMap id) := srt_unique hp2 (pw_code hW hpw) hUok
            have s7 := sm_upd s06 hq (o := .lst ws)
            have s7' := sm_upd (Same.refl H6) hq (o := .lst ws)
            refine ⟨q, _, rfl, .inl ⟨SqL.of upd_same, fun r hr => ?_⟩⟩
            have s8' := sm_upd s7' hr (o := .tup ws)
            refine k _ r ws (sm_upd s7 hr) (s7.free hr) upd_same ?_
            rw [hch, ← e2]
            exact TL.mono s8' hW
end
end K6

/-! KD6 -/
set_option Elab.async false
set_option linter.all false
set_option maxRecDepth 100000
set_option maxHeartbeats 4000000
namespace K6
open PySem PySem.Spec L2 KL
abbrev sGoalsWith : Stmt := top 48
def spGoalsWith (K : PySem.W.Frag) : Sp := fun vs H Q _ => ∃ (n : Nat) (t : Addr) (bits : List Nat), vs = [.int n, .ref t] ∧ SqT K H t (vN bits) ∧ 1 ≤ n ∧ n ≤ 8 ∧ bits.length = n - 1 ∧ (∀ x ∈ bits, x < 2) ∧ NewL H (vN (gws n bits)) Q
theorem rgV_vN (n : Nat) : rgV 0 (n : Int) = vN (List.range n) := by
  unfold rgV vN
  rw [Int.sub_zero, Int.toNat_natCast]
  exact List.map_congr_left fun i _ => by rw [Int.zero_add]
theorem vN_set (l : List Nat) (i x : Nat) : (vN l).set i (.int (x : Int)) = vN (l.set i x) := by rw [vN, vN, List.map_set]
theorem ixN_nat {n i : Nat} (h : i < n) : ixN n (i : Int) = some i := by
  unfold ixN
  rw [if_pos (Int.natCast_nonneg i), if_pos (by omega), Int.toNat_natCast]
theorem slA_take {K : PySem.W.Frag} {H : Hp} {a : Addr} {xs : List V} {n : Nat} {Q : VK} (hT : SqT K H a xs) (q : ∀ p H', Same H H' → SqT K H' p (xs.take n) → Q (.ref p) H') : rSlA K (.ref a) none (some (n : Int)) H Q := by
  refine ⟨a, xs, rfl, hT, fun e => ?_, fun _ p hp => ?_⟩
  · have h2 := e.2
    rw [HT.sIx_nat] at h2
    refine q a H (Same.refl H) ?_
    rw [List.take_of_length_le (by omega)]; exact hT
  · refine q p _ (sm_upd (Same.refl H) hp) (.of ?_)
    rw [upd_same, cut_take]
section
variable {P : Program} {w : World} {K : PySem.W.Frag} {mg : Str → Option Value} {base : Heap}
theorem scGoalsWith : FnScope ["lamps", "parities", "goals", "at", "parity", "one", "other"] ["lamps", "parities"] (defScope sGoalsWith) := ⟨rfl, rfl, rfl, by decide +kernel, rfl, by decide +kernel, by decide +kernel⟩
theorem ok_goals_with (D : Df K mg "goals_with" sGoalsWith) (B : Bt mg) (c1 : Cal P w K mg base 2 "class_in" spClass) : Cal P w K mg base 3 "goals_with" (spGoalsWith K) := by
  refine cal (ps := ["lamps", "parities"]) D (fun _ _ _ _ _ _ us hl => match us, hl with | [_, _], _ => rfl) scGoalsWith (fun vs H Q E h => ?_) (fun f cdv A outer s H vs Q E hr h => ?_)
  · obtain ⟨_, _, _, rfl, _⟩ := h; rfl
  · obtain ⟨n, t, bits, rfl, ht, h1, h8, hbl, hb, k⟩ := h
    refine ⟨_, pss_cons (ps_set (i := 2) scGoalsWith.nd rfl (Or.inl rfl) (pe_listRg rfl (by rfl) B.list (prg_1 (by rfl) B.range (pe_op op_shl pe_int (pv 0)))))
      (pss_cons (ps_for PassesOwn.never rfl (pi_enumT (by rfl) B.enumerate (pa_cons (pv 1) pa_nil)) (pg_tup rfl (pgs_cons (pg_name (i := 3) scGoalsWith.nd rfl (Or.inl rfl)) (pgs_cons (pg_name (i := 4) scGoalsWith.nd rfl (Or.inl rfl)) pgs_nil)))
        (pss_one (ps_if (pt_cmpR op_eq (pv 4) pe_int (nomark _))
          (pss_cons (ps_asg (pe_slice sl_tupA (pc c1 hr (by decide) (by rfl) (pa_cons (pv 0) (pa_cons (pe_op op_add (pv 3) pe_int) pa_nil))) po_none (po_some pe_int)) (pg_tup rfl (pgs_cons (pg_name (i := 5) scGoalsWith.nd rfl (Or.inl rfl)) (pgs_cons (pg_name (i := 6) scGoalsWith.nd rfl (Or.inl rfl)) pgs_nil))))
            (pss_one (ps_asg (pe_tup (pa_cons (pv 6) (pa_cons (pv 5) pa_nil))) (pg_tup rfl (pgs_cons (pg_sub (pv 2) (pv 5) set_list) (pgs_cons (pg_sub (pv 2) (pv 6) set_list) pgs_nil))))))
          pss_nil)))
      (pss_one (ps_ret (pv 2)))), ?_⟩
    have hp := (pow8 h8).2
    refine ⟨_, rfl, _, _, rfl, rfl, ⟨Int.natCast_nonneg _, by omega, by decide⟩, _, congrArg V.int (shl1 h8), RgOk.of_le (by decide) (by have := in62 (N := 2 ^ n) (by omega); omega) (by decide) (Int.natCast_nonneg _), fun G hG => ?_⟩
    rw [rgV_vN]
    have s1 : Same H (upd H G (.lst (vN (List.range (2 ^ n))))) := sm_upd (Same.refl H) hG
    refine ⟨_, rfl, t, _, rfl, sm_tup s1 ht, ?_⟩
    refine for_enumT (xs := vN bits) (fun i σ H' => (∃ a b c d, σ = [some (.int (n : Int)), some (.ref t), some (.ref G), a, b, c, d]) ∧ Same H H' ∧ H' G = some (.lst (vN (gw n bits i))))
      ⟨⟨_, _, _, _, rfl⟩, s1, upd_same⟩ (fun i σ H' _ q => sm_tup q.2.1 ht) ?_ ?_
    · rintro i x T σ H' hx hT ⟨⟨a, b, c, d, rfl⟩, sm, hg⟩
      obtain ⟨bit, hbit, rfl⟩ := vN_get hx
      have hi : i < n - 1 := by rw [← hbl]; exact (List.getElem?_eq_some_iff.mp hbit).1
      have ebit : bits.getD i 0 = bit := by rw [List.getD_eq_getElem?_getD, hbit]; rfl
      have O := gw_ok (n := n) (by omega) hb i (by omega)
      refine ⟨T, _, rfl, .of upd_same, rfl, _, _, rfl, _, _, rfl, rfl, _, rfl, rfl, _, rfl, ?_⟩
      have s2 := sm_upd sm hT (o := .tup [.int (i : Nat), .int (bit : Int)])
      have hg2 : (upd H' T (.tup [.int (i : Nat), .int (bit : Int)])) G = some (.lst (vN (gw n bits i))) := sm_upd (Same.refl H') hT _ _ hg
      generalize (upd H' T (.tup [.int (i : Nat), .int (bit : Int)])) = H2 at s2 hg2
      refine ite2 (fun e => ?_) (fun e => ?_)
      · have eb : bit = 1 := by have := of_decide_eq_true e; injection this with this; omega
        subst eb
        have hc2 : 2 ≤ (cls n (i + 1)).length := cls_two n (by omega) (i + 1) (by omega) (by omega)
        obtain ⟨a1, a2, a3, a4, a5, a6, a7⟩ := cAB hc2
        refine ⟨_, rfl, _, rfl, _, _, rfl, rfl, n, i + 1, rfl, h8, fun H3 q s3 hq h3 => ?_⟩
        refine ⟨_, rfl, slA_take (n := 2) (.of h3) fun p H4 s4 h4 => ?_⟩
        have e2 : (vN (cls n (i + 1))).take 2 = [.int (cA n (i + 1) : Nat), .int (cB n (i + 1) : Nat)] := by
          rw [← List.map_take]
          have : (cls n (i + 1)).take 2 = [cA n (i + 1), cB n (i + 1)] := by
            rw [List.take_succ, List.take_succ, List.take_zero, a1, a2]; rfl
          rw [this]; rfl
        rw [e2] at h4
        refine ⟨p, _, rfl, h4, rfl, _, _, rfl, _, _, rfl, rfl, ?_⟩
        have s34 := Same.trans s3 s4
        refine ⟨_, rfl, _, rfl, by show (2 : Nat) ≤ sizeLine; decide, fun r hr => ?_⟩
        have s5 := sm_upd (Same.trans s2 s34) hr (o := .tup [.int (cB n (i + 1) : Nat), .int (cA n (i + 1) : Nat)])
        have hg5 : (upd H4 r (.tup [.int (cB n (i + 1) : Nat), .int (cA n (i + 1) : Nat)])) G = some (.lst (vN (gw n bits i))) := sm_upd (Same.refl H4) hr _ _ (s34 _ _ hg2)
        have hl : (gw n bits i).length = 2 ^ n := O.T.len
        refine ⟨r, _, rfl, .of upd_same, rfl, _, _, rfl, ?_⟩
        refine ⟨_, rfl, _, rfl, G, _, _, cA n (i + 1), rfl, rfl, hg5, ixN_nat (by rw [vN_len, hl]; exact a3), _, _, rfl, ?_⟩
        rw [vN_set]
        refine ⟨_, rfl, _, rfl, G, _, _, cB n (i + 1), rfl, rfl, upd_same, ixN_nat (by rw [vN_len, List.length_set, hl]; exact a4), rfl, ?_⟩
        rw [vN_set]
        refine ⟨⟨_, _, _, _, rfl⟩, sm_set (sm_set s5 hG) hG, ?_⟩
        rw [upd_same]
        show _ = some (HO.lst (vN (gstep n (gw n bits i) i (bits.getD i 0))))
        rw [ebit]; rfl
      · have eb : ¬ bit = 1 := fun z => e (decide_eq_true (by rw [z]; rfl))
        refine ⟨⟨_, _, _, _, rfl⟩, s2, ?_⟩
        rw [hg2]
        show _ = some (HO.lst (vN (gstep n (gw n bits i) i (bits.getD i 0))))
        rw [ebit]; unfold gstep; rw [if_neg eb]
    · rintro σ H' ⟨⟨a, b, c, d, rfl⟩, sm, hg⟩
      rw [vN_len, hbl] at hg
      exact ⟨_, rfl, k _ G sm hG hg⟩
end
end K6

/-! KD7 -/
set_option Elab.async false
set_option linter.all false
set_option maxRecDepth 100000
set_option maxHeartbeats 4000000
namespace K6
open PySem PySem.Spec L2 KL
abbrev sCycles : Stmt := top 29
abbrev sParIn : Stmt := top 30
def spCycles (K : PySem.W.Frag) : Sp := fun vs H Q _ => ∃ (t : Addr) (n : Nat) (gl : List Nat), vs = [.ref t] ∧ SqT K H t (vN gl) ∧ n ≤ 8 ∧ Tab n gl ∧
  ∀ (H' : Hp) (q : Addr) (xs : List V) (hs : List Nat) (cs : List (List Nat)) (G : Nat → Nat), Same H H' → H q = none → H' q = some (.tup xs) → TL H' xs cs → CycO n (fn gl) (2 ^ n) hs cs G → Q (.ref q) H'
def spParIn (K : PySem.W.Frag) : Sp := fun vs H Q _ => ∃ (n : Nat) (t : Addr) (gl : List Nat), vs = [.int n, .ref t] ∧ SqT K H t (vN gl) ∧ 1 ≤ n ∧ n ≤ 8 ∧ Tab n gl ∧ NewT H (vN (pars n (fn gl))) Q
/-- the dict's rows -/
def dk (hs : List Nat) : List (Key × V) := hs.map fun r : Nat => (Sum.inl (r : Int), V.bl true)
theorem dk_val : ∀ (hs : List Nat) (r : Nat), valV (dk hs) (Sum.inl (r : Int)) = if r ∈ hs then some (.bl true) else none
  | [], r => by simp [dk, valV]
  | x :: hs, r => by
    have ih := dk_val hs r
    show valV ((Sum.inl (x : Int), V.bl true) :: dk hs) _ = _
    by_cases e : x = r
    · subst e
      rw [valV_pos rfl]; simp
    · rw [valV_neg (fun z => e (by injection z with z; omega)), ih]
      have : (r ∈ x :: hs) ↔ r ∈ hs := by
        rw [List.mem_cons]
        exact ⟨fun h => h.resolve_left fun z => e z.symm, .inr⟩
      simp only [this]
theorem dk_put {hs : List Nat} {r : Nat} (h : r ∉ hs) : putK (dk hs) (Sum.inl (r : Int)) (.bl true) = dk (hs ++ [r]) := by
  rw [putK_new _ (by rw [dk_val, if_neg h]), dk, dk, List.map_append]; rfl
theorem dk_len (hs : List Nat) : (dk hs).length = hs.length := List.length_map _
theorem TL.upd {H : Hp} {p : Addr} {o : HO} {zs : List V} {xs : List V} {L : List (List Nat)} (h : TL H xs L) (hp : H p = some (.lst zs)) : TL (L2.upd H p o) xs L :=
  AL.imp (fun _ _ ⟨a, e, q⟩ => ⟨a, e, by rw [upd_ne (fun z => by rw [z, hp] at q; cases q)]; exact q⟩) h
theorem TL.updD {H : Hp} {p : Addr} {o : HO} {zs : List (Key × V)} {xs : List V} {L : List (List Nat)} (h : TL H xs L) (hp : H p = some (.dK zs)) : TL (L2.upd H p o) xs L :=
  AL.imp (fun _ _ ⟨a, e, q⟩ => ⟨a, e, by rw [upd_ne (fun z => by rw [z, hp] at q; cases q)]; exact q⟩) h
section
variable {P : Program} {w : World} {K : PySem.W.Frag} {mg : Str → Option Value} {base : Heap}
theorem scCycles : FnScope ["goals", "found", "has", "first", "cycle", "row"] ["goals"] (defScope sCycles) := ⟨rfl, rfl, rfl, by decide +kernel, rfl, by decide +kernel, by decide +kernel⟩
theorem ok_cycles (D : Df K mg "cycles_in" sCycles) (B : Bt mg) : Cal P w K mg base 1 "cycles_in" (spCycles K) := by
  refine cal (ps := ["goals"]) D (fun _ _ _ _ _ _ us hl => match us, hl with | [_], _ => rfl) scCycles (fun vs H Q E h => ?_) (fun f cdv A outer s H vs Q E hr h => ?_)
  · obtain ⟨_, _, _, rfl, _⟩ := h; rfl
  · obtain ⟨t, n, gl, rfl, ht, h8, T, k⟩ := h
    have hu := hu_of hr
    refine ⟨_, pss_cons (ps_par (i := 1) (j := 2) (by rfl) scCycles.nd rfl rfl (by decide) rfl rfl (pa_cons (pe_lst pa_nil) (pa_cons pe_dnewK pa_nil)) (by rfl))
      (pss_cons (ps_for PassesOwn.never rfl (pi_range1 (by rfl) B.range (pa_cons (pe_callB call_len_seq (by rfl) B.len (by decide +kernel) (pa_cons (pv 0) pa_nil)) pa_nil)) (pg_name (i := 3) scCycles.nd rfl (Or.inl rfl))
        (pss_one (ps_if (pw_and (pt_cmp (pc_dnotin hu (pv 3) (pv 2)) rfl) (pw_and1 (pt_cmpR op_ne (pe_ix ix_tup (pv 0) (pv 3) (fun _ _ => rfl)) (pv 3) (nomark _)))).pt
          (pss_cons (ps_par (i := 4) (j := 5) (by rfl) scCycles.nd rfl rfl (by decide) rfl rfl (pa_cons (pe_lst (pa_cons (pv 3) pa_nil)) (pa_cons (pe_ix ix_tup (pv 0) (pv 3) (fun _ _ => rfl)) pa_nil)) (by rfl))
          (pss_cons (ps_while PassesOwn.never (pt_cmpR op_ne (pv 5) (pv 3) (nomark _))
            (pss_cons (ps_expr (pe_bm PySem.F.plainAttrs_list PySem.F.slot_list_append PySem.F.type_list_append mt_append (pv 4) (pa_cons (pv 5) pa_nil)))
            (pss_one (ps_set (i := 5) scCycles.nd rfl (Or.inl rfl) (pe_ix ix_tup (pv 0) (pv 5) (fun _ _ => rfl))))))
          (pss_cons (ps_for PassesOwn.never rfl (pi_list (pv 4)) (pg_name (i := 5) scCycles.nd rfl (Or.inl rfl))
            (pss_one (ps_dput hu (pv 2) (pv 5) pe_bl rfl)))
          (pss_one (ps_expr (pe_bm PySem.F.plainAttrs_list PySem.F.slot_list_append PySem.F.type_list_append mt_append (pv 1) (pa_cons (pe_callTy cr_tupOf (by rfl) B.tuple (by decide +kernel) (pa_cons (pv 4) pa_nil)) pa_nil)))))))
          pss_nil)))
      (pss_one (ps_ret (pe_callTy cr_tupOf (by rfl) B.tuple (by decide +kernel) (pa_cons (pv 1) pa_nil))))), ?_⟩
    have hp := (pow8 h8).2
    have h62 := in62 (N := 2 ^ n) (by omega)
    refine ⟨by decide, fun F hF0 Dd hD0 => ⟨_, _, rfl, ?_⟩⟩
    have s1 := sm_upd (Same.refl H) hF0 (o := .lst [])
    have s2 := sm_upd s1 hD0 (o := .dK [])
    have hD : H Dd = none := s1.free hD0
    have hF0' : H F = none := hF0
    have hFD : F ≠ Dd := fun z => by rw [← z, upd_same] at hD0; cases hD0
    refine ⟨_, rfl, t, _, rfl, .inr (sm_tup s2 ht), _, rfl, by rw [vN_len, T.len]; exact h62.1, by rw [vN_len, T.len]; exact h62.2, ?_⟩
    rw [vN_len, T.len, Int.toNat_natCast]
    refine for_range (fun i σ H' => ∃ hs cs G xs a b c, σ = [some (.ref t), some (.ref F), some (.ref Dd), a, b, c] ∧ Same H H' ∧ CycO n (fn gl) i hs cs G ∧ H' F = some (.lst xs) ∧ TL H' xs cs ∧ H' Dd = some (.dK (dk hs)))
      ⟨[], [], fn gl, [], _, _, _, rfl, s2, CycO.start T.P, by rw [upd_ne hFD]; exact upd_same, trivial, upd_same⟩ ?_ ?_
    · rintro i σ H1 hi ⟨hs, cs, G, xs, a, b, c, rfl, sm, C, hF, hTL, hDd⟩
      have hTt : ∀ {H'}, Same H H' → SqT K H' t (vN gl) := fun s => sm_tup s ht
      have hgi := T.get hi
      have ei : (0 : Int) + (i : Int) = (i : Int) := Int.zero_add _
      refine ⟨_, rfl, _, rfl, Dd, _, rfl, by rw [ei]; exact DGet.k (k := Sum.inl (i : Int)) hDd, _, rfl, ?_⟩
      rw [dk_val]
      by_cases hm : i ∈ hs
      · rw [if_pos hm]
        exact iteF (iteF ⟨hs, cs, G, xs, _, _, _, rfl, sm, C.skip (.inl hm), hF, hTL, hDd⟩)
      · rw [if_neg hm]
        refine iteT ?_
        refine ⟨_, rfl, _, rfl, t, _, _, _, rfl, by rw [ei], hTt sm, atI_nat (vN_at hgi), _, rfl, rfl, _, rfl, ?_⟩
        rw [ei]
        refine ite2 (fun e => ?_) (fun e => ?_)
        · have hne : fn gl i ≠ i := fun z => by
            have e' := e
            rw [z] at e'
            simp at e'
          have hlc : ∀ {hs : List Nat}, hs.Nodup → (∀ r ∈ hs, r < 2 ^ n) → hs.length ≤ 256 := fun h1 h2 => Nat.le_trans (nodup_le _ _ h1 h2) hp
          refine ⟨_, rfl, by show (1 : Nat) ≤ sizeLine; decide, fun C1 hC => ⟨_, rfl, _, rfl, t, _, _, _, rfl, rfl, hTt (sm_upd sm hC), atI_nat (vN_at hgi), _, _, rfl, ?_⟩⟩
          have hC0 : H C1 = none := sm.free hC
          have nF : F ≠ C1 := fun z => by rw [z, hC] at hF; cases hF
          have nD : Dd ≠ C1 := fun z => by rw [z, hC] at hDd; cases hDd
          have sC := sm_upd (Same.refl H1) hC (o := .lst [.int (i : Int)])
          have I0 := CycI.start C hi hm
          refine while_by (fun σ H' => ∃ c row G', σ = [some (.ref t), some (.ref F), some (.ref Dd), some (.int (i : Int)), some (.ref C1), some (.int ((row : Nat) : Int))] ∧ Same H H' ∧ CycI n G i hs c row G' ∧ H' C1 = some (.lst (vN c)) ∧ H' F = some (.lst xs) ∧ TL H' xs cs ∧ H' Dd = some (.dK (dk hs)))
            (fun _ H' => match H' C1 with
              | some (.lst l) => 2 ^ n - l.length
              | _ => 0) ⟨[i], fn gl i, G, rfl, sm_upd sm hC, I0, upd_same, sC _ _ hF, hTL.mono sC, sC _ _ hDd⟩ ?_ ?_
          · rintro σ H2 ⟨c, row, G', rfl, s2, I, h2C, h2F, h2T, h2D⟩
            have hgr := T.get I.rlt
            refine ⟨_, rfl, _, rfl, rfl, _, rfl, ?_⟩
            refine ite2 (fun e => ?_) (fun e => ?_)
            · have hne : row ≠ i := fun z => by
                have e' := e
                rw [z] at e'
                simp at e'
              have I' := CycI.next C I hne
              have hl := I'.len
              rw [List.length_append, List.length_singleton] at hl
              refine ⟨_, rfl, .inl ⟨rfl, _, .of h2C⟩, _, rfl, C1, _, _, rfl, rfl, h2C, small1000 (by rw [vN_len]; omega), _, rfl, _, rfl, t, _, _, _, rfl, rfl, hTt (sm_set s2 hC0), atI_nat (vN_at hgr), ?_⟩
              refine ⟨⟨c ++ [row], fn gl row, _, rfl, sm_set s2 hC0, I', by rw [upd_same, vN_app]; rfl, by rw [upd_ne nF]; exact h2F, h2T.upd h2C, by rw [upd_ne nD]; exact h2D⟩, ?_⟩
              show (match (upd H2 C1 (.lst (vN c ++ [.int (row : Int)]))) C1 with | some (.lst l) => 2 ^ n - l.length | _ => 0) < (match H2 C1 with | some (.lst l) => 2 ^ n - l.length | _ => 0)
              rw [upd_same, h2C]
              show 2 ^ n - (vN c ++ [V.int (row : Int)]).length < 2 ^ n - (vN c).length
              rw [List.length_append, vN_len, List.length_singleton]
              omega
            · have he : row = i := Classical.byContradiction fun z => e (by
                have : decide (V.int (row : Int) = V.int (i : Int)) = false := decide_eq_false fun y => z (by injection y with y; omega)
                rw [this]; rfl)
              subst he
              have hcn : ∀ x ∈ c, x ∉ hs := fun x hx => (I.clt x hx).2
              have hnd : (hs ++ c).Nodup := List.nodup_append.mpr ⟨C.hn, I.cn, fun a ha b hb z => hcn b hb (z ▸ ha)⟩
              have hcl := hlc I.cn fun x hx => (I.clt x hx).1
              have hhl := hlc C.hn C.hlt
              refine ⟨_, rfl, C1, rfl, ⟨_, .of h2C⟩, ?_⟩
              refine for_it (walk_list (xs := vN c)) (fun j σ H' => (∃ a, σ = [some (.ref t), some (.ref F), some (.ref Dd), some (.int (row : Int)), some (.ref C1), a]) ∧ Same H H' ∧ H' C1 = some (.lst (vN c)) ∧ H' F = some (.lst xs) ∧ TL H' xs cs ∧ H' Dd = some (.dK (dk (hs ++ c.take j))))
                ⟨⟨_, rfl⟩, s2, h2C, h2F, h2T, by rw [List.take_zero, List.append_nil]; exact h2D⟩ (fun j σ H' _ q => .of q.2.2.1) ?_ ?_
              · rintro j x σ H3 H3' hj ⟨⟨a, rfl⟩, s3, h3C, h3F, h3T, h3D⟩ ⟨rfl, hx⟩
                obtain ⟨r, hr', rfl⟩ := vN_get hx
                have hrm : r ∉ hs ++ c.take j := fun z => by
                  have hrc : r ∈ c := List.mem_iff_getElem?.mpr ⟨j, hr'⟩
                  rcases List.mem_append.mp z with z | z
                  · exact hcn r hrc z
                  · have := I.cn
                    have hsp : c = c.take j ++ c.drop j := (List.take_append_drop j c).symm
                    rw [hsp, List.nodup_append] at this
                    refine this.2.2 r z r ?_ rfl
                    obtain ⟨hjl, ej⟩ := List.getElem?_eq_some_iff.mp hr'
                    rw [List.drop_eq_getElem_cons hjl, ej]; exact List.mem_cons_self
                have nC : C1 ≠ Dd := fun z => nD z.symm
                refine ⟨_, rfl, _, rfl, Dd, _, rfl, DPut.k (k := Sum.inl (r : Int)) h3D (small1000 (by rw [dk_len, List.length_append, List.length_take]; omega)), ?_⟩
                refine ⟨⟨_, rfl⟩, sm_set s3 hD, by rw [upd_ne nC]; exact h3C, by rw [upd_ne hFD]; exact h3F, h3T.updD h3D, ?_⟩
                rw [upd_same, dk_put hrm, List.take_succ, hr', List.append_assoc]; rfl
              · rintro σ H3 ⟨⟨a, rfl⟩, s3, h3C, h3F, h3T, h3D⟩
                rw [vN_len, List.take_length] at h3D
                refine ⟨_, rfl, .inl ⟨rfl, _, .of h3F⟩, _, rfl, C1, _, rfl, .inl ⟨.of h3C, fun q hq => ?_⟩⟩
                have s4 := sm_upd (Same.refl H3) hq (o := .tup (vN c))
                refine ⟨F, _, _, rfl, rfl, s4 _ _ h3F, small1000 (by rw [h3T.len]; have := C.len; omega), ?_⟩
                have h4T : TL (upd (upd H3 q (.tup (vN c))) F (.lst (xs ++ [.ref q]))) (xs ++ [.ref q]) (cs ++ [c]) := by
                  refine AL.snoc (TL.upd (h3T.mono s4) (s4 _ _ h3F)) ⟨q, rfl, ?_⟩
                  rw [upd_ne (fun z => by rw [z, h3F] at hq; cases hq)]; exact upd_same
                refine ⟨hs ++ c, cs ++ [c], G', _, _, _, _, rfl, sm_set (Same.trans s3 s4) hF0', CycI.done C I (fun x => List.mem_append) hnd, upd_same, h4T, ?_⟩
                rw [upd_ne (fun z => hFD z.symm)]
                exact s4 _ _ h3D
          · rintro σ H' Q' Q'' hm ⟨v, e, y, e2, e3, c, e4, q⟩
            exact ⟨v, e, y, e2, e3, c, e4, hm _ _ q⟩
        · have he : fn gl i = i := Classical.byContradiction fun z => e (by
            have : decide (V.int (fn gl i : Int) = V.int (i : Int)) = false := decide_eq_false fun y => z (by injection y with y; omega)
            rw [this]; rfl)
          exact ⟨hs, cs, G, xs, _, _, _, rfl, sm, C.skip (.inr he), hF, hTL, hDd⟩
    · rintro σ H1 ⟨hs, cs, G, xs, a, b, c, rfl, sm, C, hF, hTL, hDd⟩
      refine ⟨_, rfl, F, _, rfl, .inl ⟨.of hF, fun q hq => ?_⟩⟩
      exact k _ q xs hs cs G (sm_upd sm hq) (sm.free hq) upd_same (hTL.mono (sm_upd (Same.refl _) hq)) C
end
end K6

/-! KD8 -/
set_option Elab.async false
set_option linter.all false
set_option maxRecDepth 100000
set_option maxHeartbeats 4000000
namespace K6
open PySem PySem.Spec L2 KL
section
variable {P : Program} {w : World} {K : PySem.W.Frag} {mg : Str → Option Value} {base : Heap}
theorem scParIn : FnScope ["lamps", "goals", "odds", "_", "cycle", "weight"] ["lamps", "goals"] (defScope sParIn) := ⟨rfl, rfl, rfl, by decide +kernel, rfl, by decide +kernel, by decide +kernel⟩
theorem cut_mid (xs : List V) {n : Nat} (h : xs.length = n + 1) (h1 : 1 ≤ n) : cutV xs (some (1 : Int)) (some (n : Int)) = (xs.drop 1).take (n - 1) := by
  unfold cutV
  rw [HT.sIx_nat, show HT.sIx xs.length 0 (some (1 : Int)) = min 1 xs.length from HT.sIx_nat _ _ 1, h, Nat.min_eq_left (by omega), Nat.min_eq_left (by omega)]
theorem ok_par_in (D : Df K mg "parities_in" sParIn) (B : Bt mg) (c1 : Cal P w K mg base 1 "cycles_in" (spCycles K)) (c2 : Cal P w K mg base 1 "weight_in" spWt) : Cal P w K mg base 2 "parities_in" (spParIn K) := by
  refine cal (ps := ["lamps", "goals"]) D (fun _ _ _ _ _ _ us hl => match us, hl with | [_, _], _ => rfl) scParIn (fun vs H Q E h => ?_) (fun f cdv A outer s H vs Q E hr h => ?_)
  · obtain ⟨_, _, _, rfl, _⟩ := h; rfl
  · obtain ⟨n, t, gl, rfl, ht, h1, h8, T, k⟩ := h
    refine ⟨_, pss_cons (ps_setLc (i := 2) (own := [("_", 3)]) (g := gName 3) (tt := tYes) (te := tC (.int 0)) rfl scParIn.nd rfl rfl (sw_true rfl rfl rfl (by decide +kernel))
        (pi_range1 (by rfl) B.range (pa_cons (pe_op op_add (pv 0) pe_int) pa_nil))
        (blkOk_by (own := [("_", 3)]) (N := ["lamps", "goals", "odds", "_", "cycle", "weight"]) (sc := defScope sParIn) (by decide +kernel))
        (fun _ _ _ _ _ => pg_name (i := 3) scParIn.nd rfl (Or.inl rfl)) (fun _ _ _ _ _ => pts_nil)
        (fun _ _ _ _ _ => pe_int))
      (pss_cons (ps_for PassesOwn.never rfl (pi_tup (pc c1 hr (by decide) (by rfl) (pa_cons (pv 1) pa_nil))) (pg_name (i := 4) scParIn.nd rfl (Or.inl rfl))
        (pss_cons (ps_set (i := 5) scParIn.nd rfl (Or.inl rfl) (pc c2 hr (by decide) (by rfl) (pa_cons (pe_ix ix_tup (pv 4) pe_int (fun _ _ => rfl)) pa_nil)))
        (pss_one (ps_asg (pe_op op_mod (pe_op op_sub (pe_op op_add (pe_ix ix_list (pv 2) (pv 5) (fun _ _ => rfl)) (pe_callB call_len_seq (by rfl) B.len (by decide +kernel) (pa_cons (pv 4) pa_nil))) pe_int) pe_int) (pg_sub (pv 2) (pv 5) set_list)))))
      (pss_one (ps_ret (pe_callTy cr_tupOf (by rfl) B.tuple (by decide +kernel) (pa_cons (pe_slice sl_list (pv 2) (po_some pe_int) (po_some (pv 0))) pa_nil))))), ?_⟩
    have hp := (pow8 h8).2
    have h62 := in62 (N := n + 1) (by omega)
    refine ⟨_, rfl, _, _, rfl, rfl, _, congrArg (fun z => [V.int z]) (show (n : Int) + 1 = ((n + 1 : Nat) : Int) by omega), h62.1, h62.2, fun O hO0 => ?_⟩
    rw [Int.toNat_natCast]
    refine lc_map walk_range (vN (List.replicate (n + 1) 0)) (by rw [vN_len, List.length_replicate]) (by omega) hO0 (fun H' s => trivial) ?_ ?_
    · rintro i x H1 H1' R hi s1 ⟨rfl, rfl⟩ kR
      refine ⟨rfl, kR _ _ (Same.refl _) ?_⟩
      rw [vN, List.map_replicate, List.getElem?_replicate, if_pos hi]; rfl
    · intro H1 s1 hO
      refine ⟨_, rfl, t, n, gl, rfl, sm_tup s1 ht, h8, T, fun H2 q xs hs cs G s2 hq hx hT C => ?_⟩
      refine ⟨q, rfl, ⟨_, .of hx⟩, ?_⟩
      have s02 := Same.trans s1 s2
      have hO2 := s2 _ _ hO
      have hl := hT.len
      refine for_it (walk_tup (xs := xs)) (fun i σ H' => (∃ a b, σ = [some (.int (n : Int)), some (.ref t), some (.ref O), none, a, b]) ∧ Same H H' ∧ H' q = some (.tup xs) ∧ TL H' xs cs ∧ H' O = some (.lst (vN (odds n (cs.take i)))))
        ⟨⟨_, _, rfl⟩, s02, hx, hT, by rw [List.take_zero, odds_nil]; exact hO2⟩ (fun i σ H' _ p => .of p.2.2.1) ?_ ?_
      · rintro i x σ H3 H3' hi ⟨⟨a, b, rfl⟩, s3, h3x, h3T, h3O⟩ ⟨rfl, hxi⟩
        obtain ⟨c, hc, ca, rfl, hca⟩ := h3T.get hxi
        obtain ⟨cne, clt⟩ := C.ne c (List.mem_iff_getElem?.mpr ⟨i, hc⟩)
        obtain ⟨y, r, rfl⟩ : ∃ y r, c = y :: r := by
          cases c with
          | nil => exact absurd rfl cne
          | cons y r => exact ⟨y, r, rfl⟩
        have hy := clt y (by simp)
        have hwy : wt y ≤ n := wt_le n (by omega) y hy
        have hcl := C.clen _ (List.mem_iff_getElem?.mpr ⟨i, hc⟩)
        rw [List.length_cons] at hcl
        refine ⟨_, rfl, ca, _, _, _, rfl, rfl, .of hca, atI_nat (j := 0) (v := .int (y : Int)) (by rfl), y, rfl, by omega, ?_⟩
        refine ⟨_, rfl, _, rfl, O, _, _, _, rfl, rfl, .of h3O, atI_nat (vN_at (odds_get hwy)), _, rfl, ca, _, rfl, .inr (.of hca), _, _, rfl, rfl, _, _, rfl, rfl, _, _, rfl, rfl, (by show (0 : Int) < 2; decide), ?_⟩
        refine ⟨_, rfl, _, rfl, O, _, _, wt y, rfl, rfl, h3O, ixN_nat (by rw [vN_len, odds_len]; omega), ?_⟩
        have ev : (((csum (cs.take i) (wt y) % 2 : Nat) : Int) + ((vN (y :: r)).length : Int) - 1) % 2 = ((((csum (cs.take i) (wt y) % 2 + ((y :: r).length - 1)) % 2 : Nat)) : Int) := by
          rw [vN_len, List.length_cons]; omega
        have e1 : cs.take (i + 1) = cs.take i ++ [y :: r] := by rw [List.take_succ, hc]; rfl
        have hset : (vN (odds n (cs.take i))).set (wt y) (V.int ((((csum (cs.take i) (wt y) % 2 : Nat) : Int) + ((vN (y :: r)).length : Int) - 1) % 2)) = vN (odds n (cs.take (i + 1))) := by
          rw [ev, vN_set, e1, odds_snoc (by simp) hwy]; rfl
        refine ⟨⟨_, _, rfl⟩, sm_set s3 hO0, ?_, h3T.upd h3O, ?_⟩
        · rw [upd_ne (fun z => by rw [z, h3O] at h3x; cases h3x)]; exact h3x
        · rw [upd_same]
          exact congrArg (fun l => some (HO.lst l)) hset
      · rintro σ H3 ⟨⟨a, b, rfl⟩, s3, h3x, h3T, h3O⟩
        rw [hl, List.take_length] at h3O
        refine ⟨_, rfl, _, rfl, _, rfl, _, rfl, O, _, rfl, .of h3O, fun p1 hp1 => ?_⟩
        rw [cut_mid _ (by rw [vN_len, odds_len]) h1]
        have e2 : ((vN (odds n cs)).drop 1).take (n - 1) = vN (pars n (fn gl)) := by rw [← odds_pars C, vN, vN, List.map_take, List.map_drop]
        rw [e2]
        refine ⟨p1, _, rfl, .inl ⟨.of upd_same, fun p2 hp2 => ?_⟩⟩
        have s4 := sm_upd s3 hp1 (o := .lst (vN (pars n (fn gl))))
        exact k _ p2 (sm_upd s4 hp2) (s4.free hp2) upd_same
end
end K6

/-! KX1 -/
set_option Elab.async false
set_option linter.all false
set_option maxRecDepth 100000
set_option maxHeartbeats 4000000
/-! Own exceptions whose __init__ says super().__init__('..') and then stores its arguments. -/
namespace SupX
open PySem PySem.W PySem.Calls PyProof.Rows PySem.HandSPX PySem.Spec
/-- the text's first line -/
def supE (p0 p1 p2 p3 p4 : Pos) (m : Str) (j : Nat) : Expr := .Call (.Attribute (.Call (.Name "super" p0) [] [] p1) "__init__" p2) [.Constant (.str m) j p3] [] p4
/-- what the written part says of a class C by its __init__, at fI -/
structure SupTxt (P : Program) (K : Frag) (mg : Str → Option Value) (C fI : Addr) (qual : Str) (A0 : Arguments) (body : List Stmt) (scope : Scope) : Prop where
  T : L2.OexC K C
  ga : findIn K (.ref C) "__getattribute__" = some (some (.builtin "BaseException.__getattribute__"))
  gg : findIn K (.ref C) "__getattr__" = some none
  hd : hasDictIn K C = true
  iC : findIn K (.ref C) "__init__" = some (some (.ref fI))
  tI : typeIn K (.ref fI) = some (.type "function")
  fn : ∃ (oc : Value) (od : Option Addr) (doc pm : Value) (an : Option Addr) (cda : Addr) (ct : Value) (osl : Array (Option Value)) (cc : Addr) (cl : Value) (cld : Option Addr) (csl : Array (Option Value)) (ccl : Value) (cdd : Option Addr) (vs : Array Value) (ccs : Array (Option Value)) (file : Str) (tf : Tok),
    K.lookup fI = some ⟨oc, od, .func (ksFn "__init__" qual A0 body scope .none .none doc pm an (.ref cda) ct cc), osl⟩ ∧ codeIn K (.ref cda) qual = true ∧
    K.lookup cc = some ⟨cl, cld, .cell (some (.ref C)), csl⟩ ∧ K.lookup cda = some ⟨ccl, cdd, .fields vs, ccs⟩ ∧ vs[2]? = some (.str file tf) ∧ ((P.main.file : Str) == file) = true
  sub : mroIn K C (.ref C) = some true
  sup : nsIn K mainGlobals "super" = some none
  ms : mg "super" = none
  st : nsIn K cStatics "thirdparty.any" = some none
  si : ks_superIn K C C "__init__" = some (some (.builtin "ValueError.__init__"))
  ve : subIn K (.ref C) (.type "ValueError") = some true
  top : (P.main.scope.names.lookup ("super" : Str)).isSome = false
section
variable {prog : Program} {w : World} {A : Around} {E : Value → Shared → Prop} {K : Frag} {mg mb m : Str → Option Value} {C fI cc cda L x t0 : Addr} {qual : Str} {A0 : Arguments} {body : List Stmt} {scope : Scope} {hp : Heap} {g : Array GenState} {d : Drawn} {t : Nat} {os : OsState}
theorem call_bv {nm q : Str} {N : Addr} {bs bm : List Value} {hdct : Bool} {sn : List Str} {sub : List Value} {ab : Bool} {col : Option Bool} {dd : Option Addr} {k0 k1 k2 k3 k5 : Option Value} {u e : Addr} {rest : List Value} {Q : Value → Shared → Prop}
    (hC : hp.get? C = some (excClassObj nm q C N bs bm hdct sn sub ab col dd k0 k1 k2 k3 k5 "ValueError.__new__")) (he : hp.get? e = some (excO C t0)) (hu : hp.get? u = some (kxs_mw "ValueError.__init__" e)) (hrest : rest.length ≤ sizeLine)
    (hq : ∀ h' t1, (∀ b o, b ≠ e → hp.get? b = some o → h'.get? b = some o) → h'.get? e = some (excO C t1) → Q .none ⟨h', g, d, t, os⟩) :
    wpAny (model prog w) A (call (.ref u) rest) Q E ⟨hp, g, d, t, os⟩ := by
  refine wpAny_call (codeAny_of_tree ?_)
  show wpAny _ A.in1 (callAny (.ref u) ⟨rest, []⟩) _ _ _
  simp only [callAny]
  refine wpAny_bind (wpAny_load hu ?_)
  simp only [kxs_mw, show (Value.type "method-wrapper" == Value.type "method" || Value.type "method-wrapper" == Value.type "builtin_function_or_method" || Value.type "method-wrapper" == Value.type "method-wrapper") = true by decide, if_true]
  refine KFB.if_so (by decide) ?_
  refine wpAny_bind (check_bound_init F.excBase_ValueError.toExcCallFacts hC he rfl ?_)
  refine wpAny_bind (wpAny_pure (wpAny_pure ?_))
  refine ⟨plainId_quiet F.excBase_ValueError.init.plain _, codeAny_builtin F.excBase_ValueError.initEntry ?_⟩
  exact exc_init_tree (cls := .ref C) (t0 := t0) (dv := none) (c2 := .none) (c3 := .none) (b4 := .bool false) he hrest fun h' k e1 _ => hq h' _ k e1
theorem sup_call {p0 p1 p2 p3 p4 p5 : Pos} {ms : Str} {j : Nat} {ap : Pos} {Q : Flow → Shared → Prop} (S : SupTxt prog K mg C fI qual A0 body scope) (cc cda : Addr)
    (lf : ∃ (oc : Value) (od : Option Addr) (doc pm : Value) (an : Option Addr) (ct : Value) (osl : Array (Option Value)) (cl : Value) (cld : Option Addr) (csl : Array (Option Value)) (ccl : Value) (cdd : Option Addr) (vs : Array Value) (ccs : Array (Option Value)) (file : Str) (tf : Tok),
      K.lookup fI = some ⟨oc, od, .func (ksFn "__init__" qual A0 body scope .none .none doc pm an (.ref cda) ct cc), osl⟩ ∧ K.lookup cc = some ⟨cl, cld, .cell (some (.ref C)), csl⟩ ∧ K.lookup cda = some ⟨ccl, cdd, .fields vs, ccs⟩ ∧ vs[2]? = some (.str file tf) ∧ ((prog.main.file : Str) == file) = true)
    (X : K.In hp) (G : hp.Ns mainGlobals mg) (B : hp.Ns builtinsNs mb) (hb : ∀ y : Str, y ≠ "__name__" → mb y = bootBuiltins y) (hn : hp.Ns L m) (hm : m "self" = some (.ref x)) (hx : hp.get? x = some (excO C t0))
    (hA : (A0.posonlyargs ++ A0.args).head? = some ⟨"self", none, ap⟩) (hks : scope.names.lookup ("super" : Str) = some .globalImplicit) (hkc : scope.names.lookup ("__class__" : Str) = some .free) (hka : scope.names.lookup ("self" : Str) = some .local) (hk : scope.kind = .function)
    (h : ∀ h' t1 tk, (∀ b o, b ≠ x → hp.get? b = some o → h'.get? b = some o) → h'.get? x = some (excO C t1) → Q .next ⟨h', g, d, tk, os⟩) 
    (hi : interactive (ksEnv qual scope L fI (.ref cda) cc) = false) (hsw : swapsWith (supE p0 p1 p2 p3 p4 ms j) none p5.line (ksEnv qual scope L fI (.ref cda) cc) = pure false) {pl : Sem Bool}
    (he : eval (supE p0 p1 p2 p3 p4 ms j) (ksEnv qual scope L fI (.ref cda) cc) = (do
      let ov ← attributeBase (.Call (.Name "super" p0) [] [] p1) "__init__" (ksEnv qual scope L fI (.ref cda) cc) (eval (.Call (.Name "super" p0) [] [] p1) (ksEnv qual scope L fI (.ref cda) cc))
      standAt p2.atName
      let (f, first) ← holding [ov] (getMethod ov "__init__" pl)
      callWith p4 f first (backTo p4 (starEach [.Constant (.str ms) j p3] (ksEnv qual scope L fI (.ref cda) cc))) [])) :
    _root_.PySem.wpAt (model prog w) A (.func body (ksEnv qual scope L fI (.ref cda) cc)) (exec (.Expr (supE p0 p1 p2 p3 p4 ms j) p5) (ksEnv qual scope L fI (.ref cda) cc)) Q E ⟨hp, g, d, t, os⟩ := by
  obtain ⟨oc, od, doc, pm, an, ct, osl, cl, cld, csl, ccl, cdd, vs, ccs, file, tf, lF, lcell, lcode, hvs, hfile⟩ := lf
  obtain ⟨nm, q, N, bs, bm, sn, sub, ab, col, dd, k0, k1, k2, k3, k5, hC, hbm⟩ := S.T.cls
  have hcl : clsIn K C = some { name := nm, bases := bs, mro := .ref C :: bm, ns := N, qualname := q, hasDict := true, slotNames := sn, subclasses := sub, abstract := ab, collection := col, hasDel := false } := by unfold clsIn; rw [hC] <;> rfl
  refine ks_wpAt_Expr_any ?_ hi hsw
  unfold supE at he ⊢
  refine ks_wpAt_MethodCall ?_ he
  refine ks_wpAt_super_base (env := ksEnv qual scope L fI (.ref cda) cc) hks hkc (by decide) rfl (X _ _ lF) rfl hA rfl (X _ _ lcode) rfl hvs hfile S.top ?_
  refine ks_loadName_global hk hks (loadGlobal_builtin (env := ksEnv qual scope L fI (.ref cda) cc) G S.ms B ((hb _ (by decide +kernel)).trans (by first | rfl | decide +kernel | kernel_rfl)) ⟨rfl, ?_⟩)
  refine wpAny_loadName_free hk hkc rfl ⟨_, X _ _ lcell, rfl⟩ ?_
  refine wpAny_loadName_local hk hka hn hm ?_
  refine ks_wpAny_isType_cls (X _ _ hC) rfl ⟨rfl, ?_⟩
  refine ks_wpAny_call_super (X _ _ hC) rfl hx rfl (fun c e => by cases e) (looks_mroIn X S.sub) (fun h' e k => ?_)
  have X' : K.In h' := X.keeps k
  have I' : InstAt h' x (excO C t0) C none := ⟨k _ _ hx, rfl, rfl, trivial⟩
  have hI : Looks (model prog w) h' (isInstance (.ref x) (.type "ValueError")) true := I'.type.andThen (looks_subIn X' S.ve)
  have hsi := S.si
  unfold ks_superIn at hsi
  rw [hcl] at hsi
  refine kxs_getMethod kxs_ValueError e (looks_opaque X' S.st) (l₀ := .ref C :: bm) ?_ rfl X' hsi hI (ks_ne X' I' hcl) (by decide) ?_
  · exact fun A Q E s k q => wpAny_bind ((looks_clsIn X' hcl) A _ E s k (wpAny_pure q))
  · have hu : (h'.push (kxs_mw "ValueError.__init__" x)).get? h'.objs.size = some (kxs_mw "ValueError.__init__" x) := Heap.get?_push_at rfl rfl
    have k2 : ∀ b o, h'.get? b = some o → (h'.push (kxs_mw "ValueError.__init__" x)).get? b = some o := fun b o e => Heap.get?_push_of_some _ e
    refine kxs_callWith (i := "ValueError.__init__") (x := x) (by rfl) (evalArgs_plain ?_)
    refine Calls.spliced_cons (Calls.Constant_str (pos := p3) (k := j) (Calls.spliced_nil ⟨hu, ?_⟩))
    exact call_bv (k2 _ _ (X' _ _ hC)) (k2 _ _ (k _ _ hx)) hu (by show (1 : Nat) ≤ sizeLine; decide) fun h2 t1 kk e1 => h h2 t1 _ (fun b o hbx eo => kk b o hbx (k2 _ _ (k _ _ eo))) e1
/-- what __init__ leaves of a fresh exception at x -/
structure InitEnd (h h' : Heap) (x C dx t1 : Addr) (fs : List (Str × Value)) : Prop where
  keep : ∀ b o, b ≠ x → h.get? b = some o → h'.get? b = some o
  obj : h'.get? x = some { cls := .ref C, dict := some dx, data := .fields #[.ref t1, .none, .none, .none, .bool false, .none] }
  dbig : h.objs.size ≤ dx
  dne : dx ≠ x
  ns : h'.Ns1 dx (fun y => fs.lookup y)
theorem ns1_congr {h : Heap} {a : Addr} {f g : Str → Option Value} (n : h.Ns1 a f) (e : ∀ y, f y = g y) : h.Ns1 a g := by
  have : f = g := funext e
  exact this ▸ n
/-! one field -/
def iA1 (f : Str) (q1 q2 : Pos) : Arguments := { posonlyargs := [], args := [{ arg := "self", annotation := none, pos := q1 }, { arg := f, annotation := none, pos := q2 }], vararg := none, kwonlyargs := [], kw_defaults := [], kwarg := none, defaults := [] }
def iB1 (f : Str) (m : Str) (j : Nat) (p0 p1 p2 p3 p4 p5 q1 q2 q3 q4 : Pos) : List Stmt := [.Expr (supE p0 p1 p2 p3 p4 m j) p5, .Assign [.Attribute (.Name "self" q1) f q2] (.Name f q3) q4]
theorem init1 {fI : Addr} {f ms : Str} {j : Nat} {r1 r2 p0 p1 p2 p3 p4 p5 q1 q2 q3 q4 : Pos} {v : Value} {s : Shared} {R : Result → Shared → Prop} (S : SupTxt prog K mg C fI qual (iA1 f r1 r2) (iB1 f ms j p0 p1 p2 p3 p4 p5 q1 q2 q3 q4) scope)
    (X : K.In s.heap) (G : s.heap.Ns mainGlobals mg) (B : s.heap.Ns builtinsNs mb) (hb : ∀ y : Str, y ≠ "__name__" → mb y = bootBuiltins y) (hlim : s.heap.NoLimit) (hx : s.heap.get? x = some (excO C t0)) (hnx : K.lookup x = none) (hroom : A.depth < recursionLimit)
    (hks : scope.names.lookup ("super" : Str) = some .globalImplicit) (hkc : scope.names.lookup ("__class__" : Str) = some .free) (hka : scope.names.lookup ("self" : Str) = some .local) (hkf : scope.names.lookup f = some .local) (hk : scope.kind = .function)
    (hcell : ∀ x ∈ scope.names, x.2 ≠ .cell) (hco : scope.isCoroutine = false) (hgen : scope.isGenerator = false) (hfs : f ≠ "self") (hfd : (f == ("__debug__" : Str)) = false) (noF : findIn K (.ref C) f = some none)
    (hbind : ∀ (cda : Addr) (ct : Value) (cc : Addr) (doc pm : Value) (an : Option Addr), bindArgs (ksFn "__init__" qual (iA1 f r1 r2) (iB1 f ms j p0 p1 p2 p3 p4 p5 q1 q2 q3 q4) scope .none .none doc pm an (.ref cda) ct cc) ⟨[.ref x, v], []⟩ = pure [(("self" : Str), Value.ref x), (f, v)])
    (hi : ∀ (L : Addr) (cda cc : Addr), interactive (ksEnv qual scope L fI (.ref cda) cc) = false) (hsw : ∀ (L : Addr) (cda cc : Addr), swapsWith (supE p0 p1 p2 p3 p4 ms j) none p5.line (ksEnv qual scope L fI (.ref cda) cc) = pure false) {pl : Addr → Addr → Addr → Sem Bool}
    (he : ∀ (L cda cc : Addr), eval (supE p0 p1 p2 p3 p4 ms j) (ksEnv qual scope L fI (.ref cda) cc) = (do
      let ov ← attributeBase (.Call (.Name "super" p0) [] [] p1) "__init__" (ksEnv qual scope L fI (.ref cda) cc) (eval (.Call (.Name "super" p0) [] [] p1) (ksEnv qual scope L fI (.ref cda) cc))
      standAt p2.atName
      let (f, first) ← holding [ov] (getMethod ov "__init__" (pl L cda cc))
      callWith p4 f first (backTo p4 (starEach [.Constant (.str ms) j p3] (ksEnv qual scope L fI (.ref cda) cc))) []))
    (hs2 : ∀ (L cda cc : Addr), swapsWith (.Name f q3) (some (.Attribute (.Name "self" q1) f q2)) q4.line (ksEnv qual scope L fI (.ref cda) cc) = pure false)
    (hq : ∀ h' tk dx t1, InitEnd s.heap h' x C dx t1 [(f, v)] → R (.ok (.ret .none)) { s with heap := h', toks := tk }) :
    codeAny (model prog w) A (.call (.ref fI) ⟨[.ref x, v], []⟩) R s := by
  obtain ⟨oc, od, doc, pm, an, cda, ct, osl, cc, cl, cld, csl, ccl, cdd, vs, ccs, file, tf, lF, hcd, lcell, lcode, hvs, hfile⟩ := S.fn
  obtain ⟨nm, q, N, bs, bm, sn, sub, ab, col, dd, k0, k1, k2, k3, k5, hC, hbm⟩ := S.T.cls
  have hcl : clsIn K C = some { name := nm, bases := bs, mro := .ref C :: bm, ns := N, qualname := q, hasDict := true, slotNames := sn, subclasses := sub, abstract := ab, collection := col, hasDel := false } := by unfold clsIn; rw [hC] <;> rfl
  refine ks_codeAny_call_defAt (fd := ksFn "__init__" qual (iA1 f r1 r2) (iB1 f ms j p0 p1 p2 p3 p4 p5 q1 q2 q3 q4) scope .none .none doc pm an (.ref cda) ct cc) (binds := [(("self" : Str), Value.ref x), (f, v)]) hroom (X _ _ lF) rfl hlim (codeRec_of X hcd) rfl (BindsTo.of_eq (hbind ..)) hcell ?_ (fun h₁ hn hk₁ => ?_) hco hgen hk
  · intro y hy
    rcases List.mem_cons.mp hy with rfl | hy
    · exact hka
    · have : y = (f, v) := by simpa using hy
      rw [this]; exact hkf
  · obtain ⟨hp, g, d, t, os⟩ := s
    show _root_.PySem.wpAt (model prog w) (A.deeper (ksEnv qual scope hp.objs.size fI (.ref cda) cc)) (.func (iB1 f ms j p0 p1 p2 p3 p4 p5 q1 q2 q3 q4) (ksEnv qual scope hp.objs.size fI (.ref cda) cc)) (execs (iB1 f ms j p0 p1 p2 p3 p4 p5 q1 q2 q3 q4) (ksEnv qual scope hp.objs.size fI (.ref cda) cc)) _ _ _
    have hmS : (fun y => List.lookup y [(("self" : Str), Value.ref x), (f, v)].reverse) "self" = some (.ref x) := by
      show List.lookup ("self" : Str) [(f, v), (("self" : Str), Value.ref x)] = _
      have : (("self" : Str) == f) = false := by simpa using fun e : ("self" : Str) = f => hfs e.symm
      simp [List.lookup, this]
    have hmF : (fun y => List.lookup y [(("self" : Str), Value.ref x), (f, v)].reverse) f = some v := by
      show List.lookup f [(f, v), (("self" : Str), Value.ref x)] = _
      simp [List.lookup]
    have X1 : K.In h₁ := X.keeps hk₁
    refine ks_wpAt_execs_cons (sup_call (C := C) S cc cda ⟨oc, od, doc, pm, an, ct, osl, cl, cld, csl, ccl, cdd, vs, ccs, file, tf, lF, lcell, lcode, hvs, hfile⟩ X1 (G.keeps hk₁) (B.keeps hk₁) hb hn hmS (hk₁ _ _ hx) rfl hks hkc hka hk (fun h2 t1 tk2 kk hx2 => ?_) (hi ..) (hsw ..) (he ..))
    show _root_.PySem.wpAt _ _ _ (execs _ _) _ _ _
    refine ks_wpAt_execs_cons (wpAt_of_wpAny (plainObj_wpAny_Assign_Attribute ?_ (hs2 ..)))
    have hxL : hp.objs.size ≠ x := Nat.ne_of_gt (Heap.lt_size hx)
    have hn2 : h2.Ns hp.objs.size (fun y => List.lookup y [(("self" : Str), Value.ref x), (f, v)].reverse) := hn.at fun o e => kk _ o hxL e
    have X2 : K.In h2 := fun a o e => kk a o (fun z => by rw [z, hnx] at e; cases e) (X1 a o e)
    refine wpAny_Name (wpAny_loadName_local hk hkf hn2 hmF ?_) hfd
    refine wpAny_Name (wpAny_loadName_local hk hka hn2 hmS ?_) (by decide)
    refine set_plain X2 (ox := excO C t1) (od := none) ⟨hx2, rfl, rfl, trivial⟩ S.T.sa ?_
    refine exc_osa X2 hx2 hcl (show refsVE (.ref C :: bm) = true from hbm) rfl noF (fun h3 tk3 dx k3 dn dne hx3 hn3 => ?_)
    show _root_.PySem.wpAt _ _ _ (execs _ _) _ _ _
    refine wpAt_of_wpAny (wpAny_execs_nil ?_)
    have z1 : hp.objs.size < h2.objs.size := hn2.lt
    refine hq h3 tk3 dx t1 ⟨fun b o hb e => k3 b o hb (kk b o hb (hk₁ b o e)), hx3, Nat.le_of_lt (Nat.lt_of_lt_of_le z1 dn), dne, ns1_congr hn3 fun y => ?_⟩
    by_cases e : y = f
    · subst e; simp [List.lookup]
    · have e' : (y == f) = false := by simpa using e
      simp [List.lookup, e', e]
/-! two fields, stored as a pair -/
def iA2 (f1 f2 : Str) (q1 q2 q3 : Pos) : Arguments := { posonlyargs := [], args := [{ arg := "self", annotation := none, pos := q1 }, { arg := f1, annotation := none, pos := q2 }, { arg := f2, annotation := none, pos := q3 }], vararg := none, kwonlyargs := [], kw_defaults := [], kwarg := none, defaults := [] }
def asg2 (f1 f2 : Str) (kt kv : Nat) (a1 a2 a3 a4 a5 b1 b2 b3 b4 : Pos) : Stmt := .Assign [.Tuple [.Attribute (.Name "self" a1) f1 a2, .Attribute (.Name "self" a3) f2 a4] kt a5] (.Tuple [.Name f1 b1, .Name f2 b2] kv b3) b4
def iB2 (f1 f2 : Str) (m : Str) (j : Nat) (p0 p1 p2 p3 p4 p5 : Pos) (kt kv : Nat) (a1 a2 a3 a4 a5 b1 b2 b3 b4 : Pos) : List Stmt := [.Expr (supE p0 p1 p2 p3 p4 m j) p5, asg2 f1 f2 kt kv a1 a2 a3 a4 a5 b1 b2 b3 b4]
theorem init2 {fI : Addr} {f1 f2 ms : Str} {j kt kv : Nat} {r1 r2 r3 p0 p1 p2 p3 p4 p5 a1 a2 a3 a4 a5 b1 b2 b3 b4 : Pos} {v1 v2 : Value} {s : Shared} {R : Result → Shared → Prop} (S : SupTxt prog K mg C fI qual (iA2 f1 f2 r1 r2 r3) (iB2 f1 f2 ms j p0 p1 p2 p3 p4 p5 kt kv a1 a2 a3 a4 a5 b1 b2 b3 b4) scope)
    (X : K.In s.heap) (G : s.heap.Ns mainGlobals mg) (B : s.heap.Ns builtinsNs mb) (hb : ∀ y : Str, y ≠ "__name__" → mb y = bootBuiltins y) (hlim : s.heap.NoLimit) (hx : s.heap.get? x = some (excO C t0)) (hnx : K.lookup x = none) (hroom : A.depth < recursionLimit) (hh : A.handled = none)
    (hks : scope.names.lookup ("super" : Str) = some .globalImplicit) (hkc : scope.names.lookup ("__class__" : Str) = some .free) (hka : scope.names.lookup ("self" : Str) = some .local) (hk1 : scope.names.lookup f1 = some .local) (hk2 : scope.names.lookup f2 = some .local) (hk : scope.kind = .function)
    (hcell : ∀ x ∈ scope.names, x.2 ≠ .cell) (hco : scope.isCoroutine = false) (hgen : scope.isGenerator = false) (hs1 : f1 ≠ "self") (hs2 : f2 ≠ "self") (h12 : f1 ≠ f2) (hd1 : (f1 == ("__debug__" : Str)) = false) (hd2 : (f2 == ("__debug__" : Str)) = false) (no1 : findIn K (.ref C) f1 = some none) (no2 : findIn K (.ref C) f2 = some none)
    (hbind : ∀ (cda : Addr) (ct : Value) (cc : Addr) (doc pm : Value) (an : Option Addr), bindArgs (ksFn "__init__" qual (iA2 f1 f2 r1 r2 r3) (iB2 f1 f2 ms j p0 p1 p2 p3 p4 p5 kt kv a1 a2 a3 a4 a5 b1 b2 b3 b4) scope .none .none doc pm an (.ref cda) ct cc) ⟨[.ref x, v1, v2], []⟩ = pure [(("self" : Str), Value.ref x), (f1, v1), (f2, v2)])
    (hi : ∀ (L : Addr) (cda cc : Addr), interactive (ksEnv qual scope L fI (.ref cda) cc) = false) (hsw : ∀ (L : Addr) (cda cc : Addr), swapsWith (supE p0 p1 p2 p3 p4 ms j) none p5.line (ksEnv qual scope L fI (.ref cda) cc) = pure false) {pl : Addr → Addr → Addr → Sem Bool}
    (he : ∀ (L cda cc : Addr), eval (supE p0 p1 p2 p3 p4 ms j) (ksEnv qual scope L fI (.ref cda) cc) = (do
      let ov ← attributeBase (.Call (.Name "super" p0) [] [] p1) "__init__" (ksEnv qual scope L fI (.ref cda) cc) (eval (.Call (.Name "super" p0) [] [] p1) (ksEnv qual scope L fI (.ref cda) cc))
      standAt p2.atName
      let (f, first) ← holding [ov] (getMethod ov "__init__" (pl L cda cc))
      callWith p4 f first (backTo p4 (starEach [.Constant (.str ms) j p3] (ksEnv qual scope L fI (.ref cda) cc))) []))
    (hsS : ∀ (L cda cc : Addr), swapsWithSole [.Tuple [.Attribute (.Name "self" a1) f1 a2, .Attribute (.Name "self" a3) f2 a4] kt a5] (.Tuple [.Name f1 b1, .Name f2 b2] kv b3) b4.line (ksEnv qual scope L fI (.ref cda) cc) = pure false)
    (hwS : ∀ (L cda cc : Addr), swappedStores [.Tuple [.Attribute (.Name "self" a1) f1 a2, .Attribute (.Name "self" a3) f2 a4] kt a5] (.Tuple [.Name f1 b1, .Name f2 b2] kv b3) (ksEnv qual scope L fI (.ref cda) cc) = pure none)
    (hq : ∀ h' tk dx t1, InitEnd s.heap h' x C dx t1 [(f1, v1), (f2, v2)] → R (.ok (.ret .none)) { s with heap := h', toks := tk }) :
    codeAny (model prog w) A (.call (.ref fI) ⟨[.ref x, v1, v2], []⟩) R s := by
  obtain ⟨oc, od, doc, pm, an, cda, ct, osl, cc, cl, cld, csl, ccl, cdd, vs, ccs, file, tf, lF, hcd, lcell, lcode, hvs, hfile⟩ := S.fn
  obtain ⟨nm, q, N, bs, bm, sn, sub, ab, col, dd, k0, k1, k2, k3, k5, hC, hbm⟩ := S.T.cls
  have hcl : clsIn K C = some { name := nm, bases := bs, mro := .ref C :: bm, ns := N, qualname := q, hasDict := true, slotNames := sn, subclasses := sub, abstract := ab, collection := col, hasDel := false } := by unfold clsIn; rw [hC] <;> rfl
  refine ks_codeAny_call_defAt (fd := ksFn "__init__" qual (iA2 f1 f2 r1 r2 r3) (iB2 f1 f2 ms j p0 p1 p2 p3 p4 p5 kt kv a1 a2 a3 a4 a5 b1 b2 b3 b4) scope .none .none doc pm an (.ref cda) ct cc) (binds := [(("self" : Str), Value.ref x), (f1, v1), (f2, v2)]) hroom (X _ _ lF) rfl hlim (codeRec_of X hcd) rfl (BindsTo.of_eq (hbind ..)) hcell ?_ (fun h₁ hn hk₁ => ?_) hco hgen hk
  · intro y hy
    rcases List.mem_cons.mp hy with rfl | hy
    · exact hka
    rcases List.mem_cons.mp hy with rfl | hy
    · exact hk1
    · have : y = (f2, v2) := by simpa using hy
      rw [this]; exact hk2
  · obtain ⟨hp, g, d, t, os⟩ := s
    show _root_.PySem.wpAt (model prog w) (A.deeper (ksEnv qual scope hp.objs.size fI (.ref cda) cc)) (.func (iB2 f1 f2 ms j p0 p1 p2 p3 p4 p5 kt kv a1 a2 a3 a4 a5 b1 b2 b3 b4) (ksEnv qual scope hp.objs.size fI (.ref cda) cc)) (execs (iB2 f1 f2 ms j p0 p1 p2 p3 p4 p5 kt kv a1 a2 a3 a4 a5 b1 b2 b3 b4) (ksEnv qual scope hp.objs.size fI (.ref cda) cc)) _ _ _
    have q12 : (f1 == f2) = false := by simpa using h12
    have qs1 : (("self" : Str) == f1) = false := by simpa using fun e : ("self" : Str) = f1 => hs1 e.symm
    have qs2 : (("self" : Str) == f2) = false := by simpa using fun e : ("self" : Str) = f2 => hs2 e.symm
    have hmS : (fun y => List.lookup y [(("self" : Str), Value.ref x), (f1, v1), (f2, v2)].reverse) "self" = some (.ref x) := by
      show List.lookup ("self" : Str) [(f2, v2), (f1, v1), (("self" : Str), Value.ref x)] = _
      simp [List.lookup, qs1, qs2]
    have hm1 : (fun y => List.lookup y [(("self" : Str), Value.ref x), (f1, v1), (f2, v2)].reverse) f1 = some v1 := by
      show List.lookup f1 [(f2, v2), (f1, v1), (("self" : Str), Value.ref x)] = _
      simp [List.lookup, q12]
    have hm2 : (fun y => List.lookup y [(("self" : Str), Value.ref x), (f1, v1), (f2, v2)].reverse) f2 = some v2 := by
      show List.lookup f2 [(f2, v2), (f1, v1), (("self" : Str), Value.ref x)] = _
      simp [List.lookup]
    have X1 : K.In h₁ := X.keeps hk₁
    refine ks_wpAt_execs_cons (sup_call (C := C) S cc cda ⟨oc, od, doc, pm, an, ct, osl, cl, cld, csl, ccl, cdd, vs, ccs, file, tf, lF, lcell, lcode, hvs, hfile⟩ X1 (G.keeps hk₁) (B.keeps hk₁) hb hn hmS (hk₁ _ _ hx) rfl hks hkc hka hk (fun h2 t1 tk2 kk hx2 => ?_) (hi ..) (hsw ..) (he ..))
    show _root_.PySem.wpAt _ _ _ (execs _ _) _ _ _
    unfold asg2
    refine ks_wpAt_execs_cons (wpAt_of_wpAny (wpAny_Assign_stores ?_ (hsS ..) (hwS ..)))
    have hxL : hp.objs.size ≠ x := Nat.ne_of_gt (Heap.lt_size hx)
    have hn2 : h2.Ns hp.objs.size (fun y => List.lookup y [(("self" : Str), Value.ref x), (f1, v1), (f2, v2)].reverse) := hn.at fun o e => kk _ o hxL e
    have X2 : K.In h2 := fun a o e => kk a o (fun z => by rw [z, hnx] at e; cases e) (X1 a o e)
    refine wpAny_Tuple_spliced (Calls.spliced_cons (wpAny_Name (wpAny_loadName_local hk hk1 hn2 hm1 ?_) hd1))
    refine Calls.spliced_cons (wpAny_Name (wpAny_loadName_local hk hk2 hn2 hm2 ?_) hd2)
    refine Calls.spliced_nil ⟨by show (2 : Nat) ≤ sizeLine; decide, ?_⟩
    have k3' : ∀ b o, h2.get? b = some o → (h2.push { cls := .type "tuple", data := .seq [v1, v2].toArray }).get? b = some o := fun b o e => Heap.get?_push_of_some _ e
    have hT : IsTup (h2.push { cls := .type "tuple", data := .seq [v1, v2].toArray }) h2.objs.size [v1, v2].toArray := IsTup.new _ _
    show wpAny _ _ (assign _ _ _) _ _ _
    refine assign_Tuple_tuple (by show A.handled = none; exact hh) hT (by rfl) (by rfl) fun h4 hx4 => ?_
    have k4 : ∀ b o, h2.get? b = some o → h4.get? b = some o := fun b o e => hx4 b o (Nat.ne_of_lt (by have := Heap.lt_size (k3' b o e); exact this)) (k3' b o e)
    have hn4 : h4.Ns hp.objs.size (fun y => List.lookup y [(("self" : Str), Value.ref x), (f1, v1), (f2, v2)].reverse) := hn2.at fun o e => k4 _ o e
    have X4 : K.In h4 := X2.keeps k4
    have z4 : hp.objs.size < h4.objs.size := hn4.lt
    show wpAny _ _ (assignInOrder [assign (.Attribute (.Name "self" a1) f1 a2) (ksEnv qual scope hp.objs.size fI (.ref cda) cc), assign (.Attribute (.Name "self" a3) f2 a4) (ksEnv qual scope hp.objs.size fI (.ref cda) cc)] [v1, v2]) _ _ _
    refine assignInOrder_cons ?_
    rw [assign_Attribute]
    refine wpAny_bind (wpAny_holding (wpAny_Name (wpAny_loadName_local hk hka hn4 hmS ?_) (by decide)))
    refine wpAny_bind (wpAny_standAt (wpAny_bind (wpAny_holding ?_)))
    refine set_plain X4 (ox := excO C t1) (od := none) ⟨k4 _ _ hx2, rfl, rfl, trivial⟩ S.T.sa ?_
    refine exc_osa X4 (k4 _ _ hx2) hcl (show refsVE (.ref C :: bm) = true from hbm) rfl no1 (fun h5 tk5 dx k5 dn dne hx5 hn5 => ?_)
    refine wpAny_release ?_
    have hdL : hp.objs.size ≠ dx := Nat.ne_of_lt (Nat.lt_of_lt_of_le z4 dn)
    have hn6 : h5.Ns hp.objs.size (fun y => List.lookup y [(("self" : Str), Value.ref x), (f1, v1), (f2, v2)].reverse) := hn4.at fun o e => k5 _ o hxL e
    have X5 : K.In h5 := fun a o e => k5 a o (fun z => by rw [z, hnx] at e; cases e) (X4 a o e)
    obtain ⟨oD, esD, epD, hoD, hdD⟩ := hn5
    have hn5 : h5.Ns1 dx (fun y => if y = f1 then some v1 else none) := ⟨oD, esD, epD, hoD, hdD⟩
    have hw5 : Within (fun y => if y = f1 then some v1 else none) [f1] := fun y hy => by
      have : y = f1 := Classical.byContradiction fun z => hy (by show (if y = f1 then some v1 else none) = none; rw [if_neg z])
      rw [this]; exact List.mem_cons_self
    refine assignInOrder_cons ?_
    rw [assign_Attribute]
    refine wpAny_bind (wpAny_holding (wpAny_Name (wpAny_loadName_local hk hka hn6 hmS ?_) (by decide)))
    refine wpAny_bind (wpAny_standAt (wpAny_bind (wpAny_holding ?_)))
    refine set_plain X5 (ox := { cls := .ref C, dict := some dx, data := .fields #[.ref t1, .none, .none, .none, .bool false, .none] }) (od := some oD) ⟨hx5, rfl, rfl, hoD⟩ S.T.sa ?_
    refine PySem.OEX.osa_old X5 hx5 hn5 hw5 (by show (1 : Nat) ≤ 1000; decide) hcl (show refsVE (.ref C :: bm) = true from hbm) rfl no2 (fun h7 tk7 k7 hn7 => ?_)
    refine wpAny_release ?_
    refine assignInOrder_nil ?_
    show _root_.PySem.wpAt _ _ _ (execs _ _) _ _ _
    refine wpAt_of_wpAny (wpAny_execs_nil ?_)
    refine hq h7 _ dx t1 ⟨fun b o hb e => ?_, k7 _ _ dne.symm hx5, Nat.le_of_lt (Nat.lt_of_lt_of_le z4 dn), dne, ns1_congr hn7 fun y => ?_⟩
    · have eb : b < hp.objs.size := Heap.lt_size e
      exact k7 b o (Nat.ne_of_lt (Nat.lt_of_lt_of_le (Nat.lt_trans eb z4) dn)) (k5 b o hb (k4 b o (kk b o hb (hk₁ b o e))))
    · by_cases e1 : y = f1
      · subst e1
        have : ¬ y = f2 := h12
        simp [List.lookup, this]
      · have e1' : (y == f1) = false := by simpa using e1
        by_cases e2 : y = f2
        · subst e2; simp [List.lookup, e1']
        · have e2' : (y == f2) = false := by simpa using e2
          simp [List.lookup, e1', e2', e1, e2]
end
end SupX

/-! KX2 -/
set_option Elab.async false
set_option linter.all false
set_option maxRecDepth 100000
set_option maxHeartbeats 4000000
namespace SupX
open PySem PySem.W PySem.Calls PyProof.Rows PySem.HandSPX PySem.Spec
/-- a made exception -/
structure OwnMade (h h' : Heap) (e C d : Addr) (fs : List (Str × Value)) : Prop where
  keep : ∀ b o, h.get? b = some o → h'.get? b = some o
  new : h.objs.size ≤ e
  obj : ∃ oe vs, h'.get? e = some oe ∧ oe.cls = .ref C ∧ oe.dict = some d ∧ oe.data = .fields vs ∧ vs[1]? = some .none
  dbig : h.objs.size ≤ d
  dne : d ≠ e
  ns : h'.Ns1 d (fun y => fs.lookup y)
/-- __init__, at fI, stores its arguments under these names -/
def InitP (P : Program) (w : World) (K : Frag) (mg : Str → Option Value) (C fI : Addr) (names : List Str) : Prop :=
  ∀ (A : Around) (s : Shared) (x t0 : Addr) (us : List Value) (R : Result → Shared → Prop), us.length = names.length → K.In s.heap → s.heap.Ns mainGlobals mg → (∃ mb, s.heap.Ns builtinsNs mb ∧ ∀ y : Str, y ≠ "__name__" → mb y = bootBuiltins y) → s.heap.NoLimit →
    s.heap.get? x = some (excO C t0) → K.lookup x = none → A.depth < recursionLimit → A.handled = none → (∀ h' tk dx t1, InitEnd s.heap h' x C dx t1 (names.zip us) → R (.ok (.ret .none)) { s with heap := h', toks := tk }) →
    codeAny (model P w) A (.call (.ref fI) ⟨.ref x :: us, []⟩) R s
structure SupC (P : Program) (w : World) (K : Frag) (mg : Str → Option Value) (x : Str) (C fI : Addr) (names : List Str) : Prop where
  gC : mg x = some (.ref C)
  T : L2.OexC K C
  ga : findIn K (.ref C) "__getattribute__" = some (some (.builtin "BaseException.__getattribute__"))
  gg : findIn K (.ref C) "__getattr__" = some none
  hd : hasDictIn K C = true
  iC : findIn K (.ref C) "__init__" = some (some (.ref fI))
  tI : typeIn K (.ref fI) = some (.type "function")
  noF : ∀ f ∈ names, findIn K (.ref C) f = some none
  init : InitP P w K mg C fI names
section
variable {prog : Program} {w : World} {A : Around} {R : Result → Shared → Prop} {s : Shared} {K : Frag} {mg : Str → Option Value} {x : Str} {C fI : Addr} {names : List Str}
theorem made (S : SupC prog w K mg x C fI names) {us : List Value} (hl : us.length = names.length) (hn : names.length ≤ 100) (X : K.In s.heap) (G : s.heap.Ns mainGlobals mg) (B : ∃ mb, s.heap.Ns builtinsNs mb ∧ ∀ y : Str, y ≠ "__name__" → mb y = bootBuiltins y) (hlim : s.heap.NoLimit)
    (hroom : A.depth + 1 < recursionLimit) (hh : A.handled = none) (hq : ∀ h' tk e d, OwnMade s.heap h' e C d (names.zip us) → R (.ok (.ret (.ref e))) { s with heap := h', toks := tk }) :
    codeAny (model prog w) A (.call (.ref C) ⟨us, []⟩) R s := by
  obtain ⟨nm, q, N, bs, bm, sn, sub, ab, col, dd, k0, k1, k2, k3, k5, hC, hbm⟩ := S.T.cls
  obtain ⟨mb, B1, B2⟩ := B
  obtain ⟨hp, g, dr, tk, os⟩ := s
  have k : ∀ b o, hp.get? b = some o → ((hp.push (kdv_tup us)).push (excO C hp.objs.size)).get? b = some o := fun b o e => Heap.get?_push_of_some _ (Heap.get?_push_of_some _ e)
  have hget : ((hp.push (kdv_tup us)).push (excO C hp.objs.size)).get? (hp.objs.size + 1) = some (excO C hp.objs.size) := by heap_get
  have hnx : K.lookup (hp.objs.size + 1) = none := by
    cases e : K.lookup (hp.objs.size + 1) with
    | none => rfl
    | some o =>
      have z : hp.get? (hp.objs.size + 1) = some o := X _ _ e
      exact absurd (Nat.lt_of_succ_lt (Heap.lt_size z)) (Nat.lt_irrefl _)
  have hus : us.length ≤ sizeLine := by rw [sizeLine_eq]; omega
  refine call_own F.excBase_ValueError (fun X => refsVE_contains X bm hbm) (X _ _ hC) (looks_findIn X S.iC) (fun self => bind_fn X self S.tI) hus ?_
  refine S.init _ ⟨(hp.push (kdv_tup us)).push (excO C hp.objs.size), g, dr, tk, os⟩ _ _ us _ hl (X.keeps k) (G.keeps k) ⟨mb, B1.keeps k, B2⟩ (hlim.keeps k) hget hnx ?_ ?_ fun h' tk' dx t1 ⟨k', hx, dn, dne, hns⟩ => ?_
  · rw [L2.make_depth]; exact hroom
  · exact hh
  · have old : ∀ b o, hp.get? b = some o → h'.get? b = some o := fun b o e => k' b o (Nat.ne_of_lt (Nat.lt_succ_of_lt (Heap.lt_size e))) (k b o e)
    have z : hp.objs.size + 1 + 1 ≤ dx := by
      first
        | (simpa only [Heap.size_push] using dn)
        | exact dn
        | (have q := dn; rw [Heap.size_push, Heap.size_push] at q; exact q)
    exact ⟨rfl, hq h' tk' (hp.objs.size + 1) dx ⟨old, Nat.le_succ _, ⟨_, _, hx, rfl, rfl, rfl, rfl⟩, Nat.le_trans (Nat.le_trans (Nat.le_succ _) (Nat.le_succ _)) z, dne, hns⟩⟩
end
end SupX
namespace L2
open PySem PySem.Spec PyProof.Rows
theorem relO_zip {vs : List V} {us : List Value} (r : Vals vs us) (f : Str) : ∀ names : List Str, names.length = vs.length → RelO (List.lookup f (names.zip vs)) (List.lookup f (names.zip us))
  | [], h => by trivial
  | n :: names, h => by
    cases r with
    | nil => simp at h
    | cons r1 r2 =>
      rw [List.zip_cons_cons, List.zip_cons_cons, lookup_put]
      have ih := relO_zip r2 f names (by simpa using h)
      by_cases e : f = n
      · subst e
        rw [if_pos rfl]
        have : ∀ (b : Value) (l : List (Str × Value)), List.lookup f ((f, b) :: l) = some b := fun b l => by simp [List.lookup]
        rw [this]; exact r1
      · rw [if_neg e]
        have e' : (f == n) = false := by simpa using e
        have : ∀ (b : Value) (l : List (Str × Value)), List.lookup f ((n, b) :: l) = List.lookup f l := fun b l => by simp [List.lookup, e']
        rw [this]; exact ih
section
variable {X : Cx} {C fI : Addr} {x : Str} {names : List Str}
/-- C(e, ..), a class with super().__init__ and these fields -/
def tMkS (C : Addr) (names : List Str) (ta : TA) : St → Hp → XK → Prop := fun σ H Q => ta σ H fun vs H1 => names.length = vs.length ∧ ∀ d, H1 d = none → Q (.ref C) (some d) (upd H1 d (.xd (names.zip vs)))
theorem pmk_sup {a : Expr} {es : List Expr} {ta : TA} {p pos : Pos} {k : Nat} (S : SupX.SupC X.prog X.w X.K X.mg x C fI names) (hn : names.length ≤ 100) (hr : Room k X.A) (ha : PA X (a :: es) ta) (hg : Gl X x) (hdb : (x == ("__debug__" : Str)) = false := by decide)
    (he : starEach (a :: es) X.env = (false, eval a X.env) :: starEach es X.env := by rfl) (hpl : (backTo pos (starEach es X.env)).any (·.1) = false := by rfl) :
    PMk X (.Call (.Name x p) (a :: es) [] pos) (tMkS C names ta) := by
  intro pins s σ H Q I h
  refine wpAny_Call_Name_kw (ld_glob I hg S.gC ?_ hdb)
  refine PySem.W.callWith_K (h₀ := X.base) I.ok.mod.kin S.T.kC (thn (ha.run pos pins s σ H _ I h) fun us s1 hh => ?_) he hpl
  obtain ⟨vs, H1, I1, r1, hl, q1⟩ := hh
  refine ⟨I1.kIn, ?_⟩
  show wpAny _ _ (call (.ref C) us) _ _ _
  have hlim := I1.nolimit
  have G1 : s1.heap.Ns mainGlobals X.mg := I1.mod.glob.keeps I1.bk
  have B1 : ∃ mb, s1.heap.Ns builtinsNs mb ∧ ∀ y : Str, y ≠ "__name__" → mb y = bootBuiltins y := by
    obtain ⟨mb, h1, h2⟩ := I1.mod.blt
    exact ⟨mb, h1.keeps I1.bk, h2⟩
  obtain ⟨hp, g, dr, tk, os⟩ := s1
  refine wpAny_call (SupX.made S (by rw [← r1.length]; exact hl.symm) hn I1.kIn G1 B1 hlim (by have := hr.dp; omega) hr.hd fun h' tk' e d M => ?_)
  show MkP X pins σ Q (.ref e) ⟨h', g, dr, tk', os⟩
  obtain ⟨oe, fv, hoe, hc, hd, hdat, h1⟩ := M.obj
  have hns := M.ns
  obtain ⟨G', g1, g2⟩ := restrict h' fun b => decide (b ≠ e)
  have gk : ∀ b, b ≠ e → G'.get? b = h'.get? b := fun b hb => g1 b (decide_eq_true hb)
  have ge : G'.get? e = none := g2 e (by simp)
  have old : ∀ b o, hp.get? b = some o → G'.get? b = some o := fun b o q => (gk b (Nat.ne_of_lt (Nat.lt_of_lt_of_le (Heap.lt_size q) M.new))).trans (M.keep b o q)
  have ob : ObjOk X.prog X.w (upd H1 d (.xd (names.zip vs))) G' d (.xd (names.zip vs)) :=
    ⟨_, hns.at (fun o q => (gk d M.dne).trans q), fun f => relO_zip r1 f names hl⟩
  have J : Inv X pins σ (upd H1 d (.xd (names.zip vs))) ⟨G', g, dr, tk', os⟩ := I1.laid (t' := tk') old M.dbig ob
  refine ⟨e, oe, fv, ⟨G', g, dr, tk', os⟩, _, .ref C, some d, rfl, J, fun b o q => ?_, ge, hoe, ⟨hc, hd⟩, hdat, h1, ?_, rfl, I1.bare, raises_own S.T.exC S.T.tyC, q1 d (I1.hok.fresh M.dbig)⟩
  · by_cases hb : b = e
    · have q' : G'.get? b = some o := q
      rw [hb, ge] at q'; cases q'
    · exact (gk b hb).symm.trans q
  · rw [upd_ne (Ne.symm M.dne)]
    exact I1.hok.fresh M.new
end
end L2

/-! KX3 -/
set_option Elab.async false
set_option linter.all false
set_option maxRecDepth 100000
set_option maxHeartbeats 4000000
/-! A caught exception that lives on behind its clause. -/
namespace PySem.W
open PySem PySem.Spec PySem.Calls PyProof.Rows
section
variable {prog : Program} {w : World} {A : Around} {E : Value → Shared → Prop} {s : Shared} {K : Frag} {x D : Addr} {ox : Obj} {od : Option Obj}
theorem k6_findObj_data {C : Addr} {name : Str} {a g : Value} (hc : (clsIn K C).isSome = true) (ha : findIn K (.ref C) name = some (some a)) (hg : specialIn K a "__get__" = some (some g)) (ht : takesIn K a = some true) : findObj K C od name = some (.bind g a) := by
  obtain ⟨cd, hc⟩ := Option.isSome_iff_exists.mp hc
  unfold findObj
  rw [hc, Option.bind_some, ha, Option.bind_some]
  simp [hg, ht]
/-- e.__class__, e an exception with or without its dict -/
theorem k6_classE {Q : Option Value → Shared → Prop} (C : L2.ExcC K D)
    (X : K.In s.heap) (I : InstAt s.heap x ox D od) (h : Q (some (.ref D)) { s with toks := s.toks + 1 }) : wpAny (model prog w) A (getAttr? (.ref x) "__class__") Q E s := by
  have hf : findObj K D od "__class__" = some (.bind (.builtin "getset_descriptor.__get__") (.builtin "object.__class__")) := k6_findObj_data (by obtain ⟨cd, hc, _⟩ := any_some C.hd; rw [hc]; rfl) C.ha C.hn C.ht
  obtain ⟨hp, g, d, t, os⟩ := s
  have L0 := I.type (M := model prog w)
  have L1 := looks_findIn (M := model prog w) X C.hg
  have L2 := looks_findIn (M := model prog w) X C.hk
  have L3 := looks_find (M := model prog w) X I hf
  have sub : Looks (model prog w) hp (isInstance (.ref x) (.type "BaseException")) true := L0.andThen (looks_subIn X C.hs)
  have hx0 : (false && onTheHeap (Value.builtin "BaseException.__getattribute__")) = false := rfl
  have hx2 : (Value.builtin "BaseException.__getattribute__" == Value.builtin "object.__getattribute__") = false := by decide +kernel
  have hx1 : (onTheHeap (Value.ref D) && Value.builtin "BaseException.__getattribute__" == Value.builtin "object.__getattribute__") = false := by rw [hx2]; rfl
  unfold getAttr? getAttrBy? getAttrBy
  refine wpAny_bind (wpAny_mkText (wpAny_bind (wpAny_attempt (wpAny_holding (wpAny_bind (L0.at (wpAny_bind (L1.at ?_))))))))
  show wpAny _ _ (if (onTheHeap (Value.ref D) && Value.builtin "BaseException.__getattribute__" == Value.builtin "object.__getattribute__") = true then _ else _) _ _ _
  rw [hx1, if_neg Bool.false_ne_true]
  unfold getAttrByItsOwn hookBefore
  refine wpAny_bind ?_
  rw [if_pos (show onTheHeap (Value.ref D) = true from rfl)]
  refine L2.at ?_
  refine wpAny_bind (wpAny_attempt (wpAny_holding ?_))
  unfold callGetattribute
  rw [hx0, if_neg Bool.false_ne_true]
  unfold boundAndCalled
  rw [PySem.F.excAttr_ValueError.ga.bind (.ref x)]
  refine wpAny_bind (wpAny_pure ?_)
  show wpAny _ _ (call (.builtin "BaseException.__getattribute__") [.ref x, .str "__class__" t]) _ _ _
  refine wpAny_call (codeAny_call_builtin PySem.F.excAttr_ValueError.ga.plain PySem.F.entry_bexc_ga ?_)
  refine @check_slot (model prog w) _ _ ⟨hp, g, d, t + 1, os⟩ "BaseException.__getattribute__" "BaseException" "__getattribute__" (.ref x) [.str "__class__" t] [] _ (by decide +kernel) (by decide +kernel) sub (PySem.F.args_bexc_ga (.ref x) (.str "__class__" t)) ?_
  unfold Builtin.«object.__getattribute__»
  refine wpAny_bind (wpAny_of_eq (a := ((Value.ref x : Value), [Value.str "__class__" t])) (by first | rfl | (simp only [slotArgs]; rfl)) ?_)
  refine wpAny_bind (wpAny_pure (wpAny_bind (L0.at (wpAny_bind (L3.at ?_)))))
  show wpAny _ _ (holding [Value.builtin "object.__class__"] (call (.builtin "getset_descriptor.__get__") [.builtin "object.__class__", .ref x, .ref D]) >>= ret) _ _ _
  refine wpAny_bind (wpAny_holding (wpAny_call (class_get (s := ⟨hp, g, d, t + 1, os⟩) (ox := ox) (od := od) X I C.hm ?_)))
  refine wpAny_pure ?_
  show wpAny _ _ (handedOut (.ref D)) _ _ _
  rw [handedOut_of (v := .ref D) rfl]
  first
    | exact wpAny_pure (wpAny_pure h)
    | exact wpAny_pure h
    | exact wpAny_pure (wpAny_bind (wpAny_pure (wpAny_pure h)))
theorem k6_kitx (C : L2.ExcC K D) : KitX K (.ref x) (.ref D) (fun h => ∃ ox od, InstAt h x ox D od) where
  ty := fun _ _ _ ⟨_, _, I⟩ => I.type
  it := fun _ _ X _ => by
    obtain ⟨cdD, hcD, _⟩ := any_some C.hd
    unfold clsIn at hcD
    split at hcD
    · rename_i c' d' cd' sl' ho
      intro A' Q' E' s' k q
      unfold isType loadHead
      exact wpAny_bind (wpAny_loadPart (k _ _ (X _ _ ho)) (wpAny_pure q))
    · cases hcD
  ne := fun h tp dd its n sl X htp => by
    obtain ⟨cdD, hcD, _⟩ := any_some C.hd
    refine Bool.eq_false_iff.mpr fun q => ?_
    have e : D = tp := Value.ref.inj (beq_iff_eq.mp q)
    subst e
    unfold clsIn at hcD
    split at hcD
    · rename_i c' d' cd' sl' ho
      have z := (X _ _ ho).symm.trans htp
      cases z
    · cases hcD
  ca := fun X ⟨_, _, I⟩ k => k6_classE C X I k
end
end PySem.W
namespace L2
open PySem PySem.Spec PyProof.Rows
/-- at a: an exception of the class cls, its dict d -/
def XO (a : Addr) (cls : Value) (d : Option Addr) : HO := .ext fun h => ∃ oe vs, h.get? a = some oe ∧ oe.cls = cls ∧ oe.dict = d ∧ oe.data = .fields vs
theorem XO_ok {P : Program} {w : World} {H : Hp} {h : Heap} {a : Addr} {cls : Value} {d : Option Addr} {oe : Obj} {vs : Array Value} (h1 : h.get? a = some oe) (h2 : oe.cls = cls) (h3 : oe.dict = d) (h4 : oe.data = .fields vs) : ObjOk P w H h a (XO a cls d) :=
  ⟨⟨oe, vs, h1, h2, h3, h4⟩, ⟨_, h1⟩, fun g1 g2 z k => by
    obtain ⟨o, v, q1, q⟩ := z
    exact ⟨o, v, k _ q1, q⟩⟩
theorem XO_at {P : Program} {w : World} {H : Hp} {h : Heap} {a : Addr} {cls : Value} {d : Option Addr} (hok : HOk P w H h) (e : H a = some (XO a cls d)) : ∃ oe vs, h.get? a = some oe ∧ oe.cls = cls ∧ oe.dict = d ∧ oe.data = .fields vs := by
  have x : ObjOk P w H h a (.ext fun h => ∃ oe vs, h.get? a = some oe ∧ oe.cls = cls ∧ oe.dict = d ∧ oe.data = .fields vs) := hok a _ e
  exact x.1
section
variable {X : Cx} {pins : List (Addr × Obj)} {σ : St} {H : Hp} {s : Shared}
/-- an object that was not there at the entry is looked at from now on -/
theorem Inv.track (I : Inv X pins σ H s) {a : Addr} {oe : Obj} {vs : Array Value} (ha : s.heap.get? a = some oe) (hd : oe.data = .fields vs) (na : H a = none) (nL : a ≠ X.env.locals) (n0 : X.s_0.heap.get? a = none) (np : ∀ p ∈ X.pn ++ pins, p.1 ≠ a) :
    Inv X pins σ (upd H a (XO a oe.cls oe.dict)) s := by
  have ne : ∀ {b : Addr} {o : HO}, H b = some o → b ≠ a := fun e z => by rw [z, na] at e; cases e
  refine ⟨I.ok, I.os, I.bare, ⟨I.base.keep, I.base.slot, fun b o e n hx => ?_, I.base.there, fun b xs e => ?_, fun b o u e => ?_, fun b ps e => ?_⟩, I.loc, I.cell, by rw [upd_ne nL.symm]; exact I.free, fun y c e => ?_, fun p hp => ?_, fun b ob e => ?_, I.len⟩
  · rw [upd_ne (fun z => by rw [z, n0] at e; cases e)]; exact I.base.free b o e n hx
  · have q := I.base.tups b xs e
    rw [upd_ne (ne q)]; exact q
  · have q := I.base.frzs b o u e
    rw [upd_ne (ne q)]; exact q
  · obtain ⟨more, q⟩ := I.base.tbls b ps e
    exact ⟨more, by rw [upd_ne (ne q)]; exact q⟩
  · have hc : c ≠ a := fun z => by
      obtain ⟨v, o, e1, e2⟩ := I.cell y c e
      rw [z, ha] at e1
      cases e1
      first
        | (rw [hd] at e2; cases e2)
        | (rw [hd] at e2; exact absurd e2.2 (by intro h; cases h))
    rw [upd_ne hc]; exact I.freeC y c e
  · obtain ⟨p1, p2, p3⟩ := I.pin p hp
    exact ⟨p1, by rw [upd_ne (np p hp)]; exact p2, p3⟩
  · by_cases hb : b = a
    · subst hb
      rw [upd_same] at e
      cases e
      exact XO_ok ha rfl rfl hd
    · rw [upd_ne hb] at e
      exact (I.hok b ob e).stay (fun c u _ z => z) (fun c z => by rw [upd_ne (ne z)]; exact z) (fun c xs z => by rw [upd_ne (ne z)]; exact z)
end
/-- as ps_try_as; behind the suite the exception is still looked at -/
def wAsT (K : PySem.W.Frag) (c : Value) (i : Nat) (ts : Addr → Value → Option Addr → TS) (Wout : WX) (D : Ends) : WX := fun cls d σ H =>
  ∃ b, PySem.W.exmOne K cls c = some b ∧ (b = true → ∀ a, H a = none → ts a cls d { nx := fun σ' H' => D.nx (σ'.set i none) (upd H' a (XO a cls d)), rt := D.rt, bk := fun σ' H' => D.bk (σ'.set i none) H', ct := fun σ' H' => D.ct (σ'.set i none) H' } (σ.set i (some (.ref a))) H) ∧
    (b = false → Wout cls d σ H)
section
variable {X : Cx} {x n : Str} {c : Value} {i : Nat} {body suite : List Stmt} {b₀ : Stmt} {np pos pos' : Pos} {tb : WX → TS} {ts : Addr → Value → Option Addr → TS} {Wout : WX}
theorem ps_try_asT (hs : X.stack = X.env :: X.outer) (hf : X.env.frame = some X.env.locals) (hex : X.ex = []) (hN : X.N.Nodup) (hi : X.N[i]? = some n) (hln : X.env.kindOf n = some .local) (hc : Names X x c) (tk : Takes X Wout)
    (hb : ∀ (W : WX) (pn : List (Addr × Obj)) (xe : Value → Shared → Prop), Takes (X.tr pn xe) W → PassesOwn (model X.prog X.w) X.A X.env xe → PSs (X.tr pn xe) body (tb W))
    (hsu : ∀ (a : Addr) (oe : Obj) (cls : Value) (d : Option Addr) (pn : List (Addr × Obj)), Zc cls d oe → (∃ vs, oe.data = .fields vs) → PSs (X.suite a ((a, oe) :: pn)) (b₀ :: suite) (ts a cls d)) :
    PS X (.Try body [.ExceptHandler (some (.Name x np)) (some n) (b₀ :: suite) pos'] [] [] pos) (fun D σ H => tb (wAsT X.K c i ts Wout D) D σ H) := by
  refine ⟨fun pins s σ H D I h => ?_⟩
  have ok := I.ok
  have hfr : X.A.frames = some (X.env :: X.outer) := by rw [ok.frames, hs]
  have hloc : Loc X.env.scope n := .inl hln
  refine wpAny_Try_except ?_
  refine wpAny_mono ((hb (wAsT X.K c i ts Wout D) (X.pn ++ pins) (fun e s₁ => wpAny (model X.prog X.w) X.A (noteFrame e X.env) (fun _ s₂ => wpAny (model X.prog X.w) X.A (setFlight e none) (fun _ s₃ =>
    wpAny (model X.prog X.w) X.A (handleBy e X.env [.ExceptHandler (some (.Name x np)) (some n) (b₀ :: suite) pos']) (SP X pins D) X.xe s₃) X.xe s₂) X.xe s₁) (fun u s' xx => ?_) PassesOwn.looking).run [] s σ H D (I.toTry _) h) (fun f s1 hsp => ?_) (fun e s1 he => he)
  · obtain ⟨a, B, sI, pins', σ', H', cls, d, rfl, J', nb, up, sky, na, os, ag, b, hb1, hyes, hno⟩ := xx
    have J : Inv X pins σ' H' sI := J'.ofTry ok
    have sky' : Sky B (X.env :: X.outer) a (Zc cls d) X.env.locals s'.heap := by rw [← hs]; exact sky
    show wpAny (model X.prog X.w) X.A (noteFrame (.ref a) X.env) _ _ _
    refine Sky.land Zc.steady hfr hf sky' fun h3 fl3 up3 => ?_
    have J3 : Inv X pins σ' H' { s' with heap := h3 } := J.landed nb fl3.1 (up.trans up3) os ag
    obtain ⟨oe3, vs3, he3, hz3, hd3⟩ := fl3.there
    have notFr : ∀ {h : Heap} {o : Obj} {vs : Array Value}, h.FunFrames B (X.env :: X.outer) → h.get? a = some o → o.data = .fields vs → a ∉ frs (X.env :: X.outer) := fun {h o vs} ff e dd hm => by
      obtain ⟨_, o', e', hnf⟩ := ff.mem hm
      rw [e] at e'; cases e'
      exact hnf _ dd
    have nfr := notFr fl3.2.2.1 he3 hd3
    have nL : a ≠ X.env.locals := fun z => nfr (List.mem_filterMap.mpr ⟨X.env, List.mem_cons_self, by rw [hf, z]⟩)
    have nF : a ∉ X.fs := fun hm => by
      obtain ⟨e, he, q⟩ := List.mem_filterMap.mp hm
      exact nfr (List.mem_filterMap.mpr ⟨e, List.mem_cons_of_mem _ he, q⟩)
    -- not in the state without it: so not there at the entry, and no pin
    have nI : sI.heap.get? a = none := by
      cases e : sI.heap.get? a with
      | none => rfl
      | some o =>
        have q := nb a o e (by rw [hs]; exact nfr)
        rw [fl3.2.1] at q; cases q
    have n0 : X.s_0.heap.get? a = none := by
      cases e : X.s_0.heap.get? a with
      | none => rfl
      | some o =>
        obtain ⟨o', q⟩ := J.base.there a o e (by rw [hex]; simp)
        rw [nI] at q; cases q
    have npn : ∀ p ∈ X.pn ++ pins, p.1 ≠ a := fun p hp z => by
      have q := (J.pin p hp).1
      rw [z, nI] at q; cases q
    have S3 := J3.suite he3 hd3 na nL nF
    refine wpAny_handleBy_cons (codeAny_handlers_test ?_) (by intro q; cases q)
    have LT : PySem.W.Looks (model X.prog X.w) h3 (typeOf (.ref a)) cls := fun A Q E s k q => wpAny_typeOf_ref (k _ _ he3) (by rw [hz3.1]; exact q)
    have LM := PySem.W.exm_one (M := model X.prog X.w) (J3.kIn) LT hb1
    have test : ∀ {Q : Value → Shared → Prop} {E : Value → Shared → Prop}, Q c { s' with heap := h3 } → wpAny (model X.prog X.w) (X.A.mark (some (.ref a))) (eval (.Name x np) X.env) Q E { s' with heap := h3 } := fun {Q E} q => by
      obtain ⟨hg, hdbg, hm | ⟨hm, hv, hnn⟩⟩ := hc
      · exact ld_glob (X := X.suite a ((a, oe3) :: (X.pn ++ pins))) S3 hg hm q hdbg
      · exact ld_blt (X := X.suite a ((a, oe3) :: (X.pn ++ pins))) S3 hg hm hv q hnn hdbg
    refine test (LM.here ?_)
    cases b with
    | true =>
      refine codeAny_handlers_suite_as ?_
      refine HandSPX.lands_againZ fl3 fun h4 fl4 up4 => ?_
      have J4 : Inv X pins σ' H' { s' with heap := h4 } := J.landed nb fl4.1 ((up.trans up3).trans up4) os ag
      obtain ⟨oe4, vs4, he4, hz4, hd4⟩ := fl4.there
      have S4 := J4.suite he4 hd4 na nL nF
      refine store_ok (X := X.suite a ((a, oe4) :: (X.pn ++ pins))) (v := .ref a) S4 hN hi hloc rfl (fun s5 S5 => ?_) (.inr hln)
      refine wpAny_mono ((hsu a oe4 cls d (X.pn ++ pins) hz4 ⟨_, hd4⟩).run [] s5 _ H' _ S5 (hyes rfl a na)) (fun f s6 hsp => ?_) (fun _ _ z => False.elim z)
      have end_ : ∀ {σ6 : St} {H6 : Hp} {Q : Shared → Prop}, Inv (X.suite a ((a, oe4) :: (X.pn ++ pins))) [] σ6 H6 s6 → (∀ s7, Inv X pins (σ6.set i none) H6 s7 → Q s7) →
          wpAny (model X.prog X.w) X.A (do bindName X.env n .none; unbindBehindTheSuite X.env n pos') (fun _ s7 => Q s7) X.xe s6 := fun {σ6 H6 Q} S6 hq => gone_ok (S6.unsuite ok) hN hi hln hq
      have endT : ∀ {σ6 : St} {H6 : Hp} {Q : Shared → Prop}, Inv (X.suite a ((a, oe4) :: (X.pn ++ pins))) [] σ6 H6 s6 → (∀ s7, Inv X pins (σ6.set i none) (upd H6 a (XO a cls d)) s7 → Q s7) →
          wpAny (model X.prog X.w) X.A (do bindName X.env n .none; unbindBehindTheSuite X.env n pos') (fun _ s7 => Q s7) X.xe s6 := fun {σ6 H6 Q} S6 hq => by
        obtain ⟨p1, p2, p3, p4, p5⟩ := S6.pin (a, oe4) (List.mem_append_left _ List.mem_cons_self)
        have T6 := (S6.unsuite ok).track p1 hd4 p2 nL n0 npn
        obtain ⟨z1, z2⟩ := hz4
        rw [z1, z2] at T6
        exact gone_ok T6 hN hi hln hq
      cases f with
      | next =>
        obtain ⟨σ6, H6, S6, q6⟩ := hsp
        exact endT S6 fun s7 J7 => ⟨_, _, J7, q6⟩
      | brk =>
        obtain ⟨σ6, H6, S6, q6⟩ := hsp
        exact end_ S6 fun s7 J7 => ⟨_, _, J7, q6⟩
      | cont =>
        obtain ⟨σ6, H6, S6, q6⟩ := hsp
        exact end_ S6 fun s7 J7 => ⟨_, _, J7, q6⟩
      | ret u =>
        obtain ⟨v6, σ6, H6, S6, r6, q6⟩ := hsp
        exact end_ S6 fun s7 J7 => ⟨_, _, _, J7, r6, q6⟩
    | false =>
      show wpAny _ X.A (handleBy (.ref a) X.env []) _ _ _
      refine wpAny_handleBy_nil ?_
      obtain ⟨k1, k2, k3, oe, vs, T, oT, ts', he, hz, hd, h1, hr⟩ := id fl3
      unfold PySem.passOn
      refine wpAny_bind (wpAny_field he hd h1 ?_)
      rw [if_neg (show ¬ ((Value.ref T == Value.none) = true) from by simp)]
      have fin : wpAny (model X.prog X.w) X.A (setFlight (.ref a) X.env.frame) (fun _ s4 => wpAny (model X.prog X.w) X.A (throw (.ref a) : Sem Flow) (SP X pins D) X.xe s4) X.xe { s' with heap := h3 } := by
        rw [hf]
        refine HandSPX.setFlight_upZ fl3 fun h4 hh4 up4 => wpAny_throw (tk _ _ ?_)
        exact ⟨a, B, sI, pins, σ', H', cls, d, rfl, J, nb, (up.trans up3).trans up4, .inr (.inr (by rw [hs]; exact hh4)), na, os, ag, hno rfl⟩
      first
        | exact wpAny_bind (wpAny_pure (wpAny_bind fin))
        | exact wpAny_bind fin
  · cases f with
    | next =>
      obtain ⟨σ', H', J', q⟩ := hsp
      exact wpAny_execs_nil ⟨σ', H', J'.ofTry ok, q⟩
    | brk =>
      obtain ⟨σ', H', J', q⟩ := hsp
      exact ⟨σ', H', J'.ofTry ok, q⟩
    | cont =>
      obtain ⟨σ', H', J', q⟩ := hsp
      exact ⟨σ', H', J'.ofTry ok, q⟩
    | ret u =>
      obtain ⟨v, σ', H', J', r, q⟩ := hsp
      exact ⟨v, σ', H', J'.ofTry ok, r, q⟩
end
section
variable {X : Cx} {pos : Pos}
/-- isinstance(e, c), e an exception that is looked at, its class one of the program's -/
def rIsX (K : PySem.W.Frag) : List V → Hp → VK → Prop := fun xs H Q => ∃ (a D : Addr) (d : Addr) (fs : List (Str × V)) (c : Addr) (b : Bool), xs = [.ref a, .ref c] ∧ H a = some (XO a (.ref D) (some d)) ∧ H d = some (.xd fs) ∧ ExcC K D ∧ PySem.W.kitOne K (.ref D) (.ref c) = some b ∧ Q (.bl b) H
theorem call_isX : CallR X (.builtin "isinstance") (rIsX X.K) := by
  intro pins s σ H xs us Q I r h
  obtain ⟨a, D, d, fs, c, b, rfl, ha, hd, C, e, q⟩ := h
  cases r with
  | cons rx rr =>
    cases rr with
    | cons rt rr =>
      cases rr
      cases rx
      cases rt
      obtain ⟨oe, vs, h1, h2, h3, h4⟩ := XO_at I.hok ha
      obtain ⟨mA, hns, _⟩ := (show ObjOk X.prog X.w H s.heap d (.xd fs) from I.hok d _ hd)
      obtain ⟨od, ho, hl⟩ := lookIn_ns hns
      have J : PySem.W.InstAt s.heap a oe D (some od) := ⟨h1, h2, by unfold PySem.W.notCls; rw [h4] <;> rfl, by rw [h3]; exact ho⟩
      exact PySem.W.kia_one (PySem.W.k6_kitx C) I.kIn ⟨_, _, J⟩ e (fun z => nomatch z) fun tk => ⟨.bl b, H, I.kept (t' := tk) fun _ _ z => z, rfl, q⟩
/-- e.f, e an exception that is looked at -/
def tXfld (K : PySem.W.Frag) (f : Str) (te : TE) : TE := fun σ H Q => te σ H fun x H1 => ∃ (a D d : Addr) (fs : List (Str × V)) (v : V), x = .ref a ∧ H1 a = some (XO a (.ref D) (some d)) ∧ H1 d = some (.xd fs) ∧ ExcC K D ∧ PySem.W.findIn K (.ref D) f = some none ∧ fs.lookup f = some v ∧ Q v H1
theorem pe_xfld {e : Expr} {f : Str} {te : TE} (he : PE X e te) (hb : attributeBase e f X.env (eval e X.env) = eval e X.env := by rfl) : PE X (.Attribute e f pos) (tXfld X.K f te) := by
  refine ⟨fun pins s σ H Q I h => ?_⟩
  refine attr_of hb (thn (he.run pins s σ H _ I h) fun u s1 hh => ?_)
  obtain ⟨x, H1, I1, rx, a, D, d, fs, v, ex, ha, hd, C, hno, hv, q⟩ := hh
  subst ex
  obtain rfl : u = Value.ref a := rx
  obtain ⟨oe, vs, h1, h2, h3, h4⟩ := XO_at I1.hok ha
  obtain ⟨mA, hns, hr⟩ := (show ObjOk X.prog X.w H1 s1.heap d (.xd fs) from I1.hok d _ hd)
  obtain ⟨od, ho, hl⟩ := lookIn_ns hns
  obtain ⟨u, hu, ru⟩ := RelO.some_of (v := v) (o := mA f) (by rw [← hv]; exact hr f)
  have J : PySem.W.InstAt s1.heap a oe D (some od) := ⟨h1, h2, by unfold PySem.W.notCls; rw [h4] <;> rfl, by rw [h3]; exact ho⟩
  exact HandSPX.exc_get I1.kIn J C.hg C.hk C.hs (PySem.W.findObj_own C.hd hno rfl (by rw [hl, hu])) (handed_of ru) ⟨v, H1, I1.tok _, ru, q⟩
end
end L2

/-! KX4 -/
set_option Elab.async false
set_option linter.all false
set_option maxRecDepth 100000
set_option maxHeartbeats 4000000
/-! A lambda, without parameters or with one that has a default, handed to a def that calls it; what it raises is heard there. -/
namespace LamD
open PySem PySem.Spec PyProof.Rows L2 LamX
abbrev klf (q : Str) (params : Arguments) (body : Expr) (scope : Scope) (cl : List (Str × Addr)) (dV doc pm cdv ct : Value) : FuncData := PySem.W.kdv_fn "<lambda>" q params (.expr body) scope cl dV doc pm cdv ct
abbrev klo (q : Str) (params : Arguments) (body : Expr) (scope : Scope) (cl : List (Str × Addr)) (dV doc pm : Value) (c' : Addr) (ctv : Value) : Obj := { cls := .type "function", data := .func (klf q params body scope cl dV doc pm (.ref c') ctv) }
section
variable {X : Cx} {pins : List (Addr × Obj)} {σ : L2.St} {H : Hp} {s : Shared}
/-- behind the defaults: the code object is new, or found in the table -/
theorem tail {T : List (Addr × Str)} {c P : Addr} {params : Arguments} {body : Expr} {scope : Scope} {pos : Pos} {fl : Nat} {dV : Value} {E : Value → Shared → Prop} {Q : Value → Shared → Prop} (I : Inv X pins σ H s) (TB : TabB X.base X.mg c P) (hcode : X.env.code = .ref c)
    (hm : (P, X.env.qual ++ "<lambda>") ∈ T) (hu : ∀ p ∈ T, p.1 = P → p.2 = X.env.qual ++ "<lambda>") (hT : Tabs T H) (hfree : ∀ y ∈ scope.names, y.2 = .free → ∃ c, X.env.cells.lookup y.1 = some c)
    (h : ∀ (f c' : Addr) (doc pm ctv : Value) (H1 : Hp) (s' : Shared), Inv X pins σ H1 s' → ExtN H H1 → Tabs T H1 →
      s'.heap.get? f = some (klo (X.env.qual ++ "<lambda>") params body scope (cloFrom X.env.cells scope.names []) dV doc pm c' ctv) → H1 f = none → f ∉ frs X.stack →
      (∀ b o, b ≠ P → s.heap.get? b = some o → s'.heap.get? b = some o) → (∀ b, H b = none → b < s.heap.objs.size → H1 b = none) → H1 c' = some (CodeO c' (X.env.qual ++ "<lambda>")) → Q (.ref f) s') :
    wpAny (model X.prog X.w) X.A (PySem.makeTail "<lambda>" (X.env.qual ++ "<lambda>") params (.expr body) scope X.env dV .none none pos fl) Q E s := by
  obtain ⟨ps, hP, ht, ha⟩ := hT _ hm
  have bP : s.heap.BuiltinsAt X.mg P := TB.bm.keeps I.bk
  have hP' : s.heap.get? P = some { cls := .none, data := .fields ps } := I.hok P _ hP
  have nofr : ∀ f, s.heap.objs.size ≤ f → f ∉ frs X.stack := fun f hf z => by
    rcases List.mem_cons.mp (I.stkSub _ z) with e | e
    · have h1 := I.lt
      rw [← e] at h1
      exact Nat.lt_irrefl _ (Nat.lt_of_lt_of_le h1 hf)
    · exact I.nofs hf e
  cases hc : codeAmong pos ps.toList with
  | none =>
    refine PySem.W.kdv_makeTail (mg := X.mg) (c := c) (P := P) (ps := ps) (closure_ok hfree) I.ok.glob (I.mod.glob.keeps I.bk) hcode (TB.code.keeps I.bk) hP' ht hc TB.gP bP fun c' ctv doc h' tk hx hge hlt hrec htb => ?_
    obtain ⟨c2, oc, vs, t, e2, hoc, hd, hv⟩ := hrec
    cases e2
    have hsz : s.heap.objs.size ≤ h'.objs.size := Nat.le_trans hge (Nat.le_of_lt hlt)
    have nC : H c' = none := I.hok.fresh hge
    have I1 := inv_table (t' := tk) (more := #[rawInt pos.line, rawInt pos.col, .ref c']) (h' := h'.push (klo (X.env.qual ++ "<lambda>") params body scope (cloFrom X.env.cells scope.names []) dV doc ((X.mg "__name__").getD .none) c' ctv)) I hP
      (fun b o hb e => Heap.get?_push_of_some _ (hx b o hb e)) (Heap.get?_push_of_some _ htb) hge ⟨oc, vs, t, Heap.get?_push_of_some _ hoc, hd, hv⟩
    have hE : ExtN H (upd (upd H P (.tbl (ps ++ #[rawInt pos.line, rawInt pos.col, .ref c']))) c' (CodeO c' (X.env.qual ++ "<lambda>"))) := fun b o e n => by
      rw [upd_ne (ne_of_none e nC), upd_ne (fun z => n ps (Option.some.inj (e.symm.trans (by rw [z]; exact hP))))]
      exact e
    have eL : (ps ++ #[rawInt pos.line, rawInt pos.col, .ref c']).toList = ps.toList ++ [rawInt pos.line, rawInt pos.col, .ref c'] := by simp
    refine h h'.objs.size c' doc ((X.mg "__name__").getD .none) ctv _ _ I1 hE (fun p hp => ?_) (Heap.get?_push_size _ rfl) ?_ (nofr _ hsz) (fun b o hb e => Heap.get?_push_of_some _ (hx b o hb e)) (fun b nb lb => ?_) upd_same
    · by_cases hb : p.1 = P
      · rw [hu p hp hb, hb]
        refine ⟨_, by rw [upd_ne (ne_of_none hP nC), upd_same], by rw [eL]; exact PySem.TriplesOk_snoc _ _ _ _ ht, fun p' cv hcv => ?_⟩
        rw [eL] at hcv
        rcases among_app _ ht hcv with z | z
        · obtain ⟨c0, e1, e2⟩ := ha p' cv z
          exact ⟨c0, e1, hE _ _ e2 codeO_ne⟩
        · exact ⟨c', z, upd_same⟩
      · obtain ⟨ps', a1, a2, a3⟩ := hT p hp
        refine ⟨ps', by rw [upd_ne (ne_of_none a1 nC), upd_ne hb]; exact a1, a2, fun p' cv hcv => ?_⟩
        obtain ⟨c0, e1, e2⟩ := a3 p' cv hcv
        exact ⟨c0, e1, hE _ _ e2 codeO_ne⟩
    · have n1 : h'.objs.size ≠ c' := Nat.ne_of_gt hlt
      have n2 : h'.objs.size ≠ P := Nat.ne_of_gt (Nat.lt_of_lt_of_le (Heap.lt_size hP') hsz)
      rw [upd_ne n1, upd_ne n2]
      exact I.hok.fresh hsz
    · rw [upd_ne (Nat.ne_of_lt (Nat.lt_of_lt_of_le lb hge)), upd_ne (fun z => by rw [z, hP] at nb; cases nb)]
      exact nb
  | some cv =>
    obtain ⟨c', e, hco⟩ := ha pos cv hc
    subst e
    refine PySem.W.kdv_makeTailHit (mg := X.mg) (c := c) (P := P) (ps := ps) (closure_ok hfree) I.ok.glob (I.mod.glob.keeps I.bk) hcode (TB.code.keeps I.bk) hP' ht hc bP fun ctv doc h' tk hx hsz => ?_
    have I1 : Inv X pins σ H { s with heap := h'.push (klo (X.env.qual ++ "<lambda>") params body scope (cloFrom X.env.cells scope.names []) dV doc ((X.mg "__name__").getD .none) c' ctv), toks := tk } := I.kept fun b o e => Heap.get?_push_of_some _ (hx b o e)
    exact h h'.objs.size c' doc ((X.mg "__name__").getD .none) ctv H _ I1 (ExtN.refl H) hT (Heap.get?_push_size _ rfl) (I.hok.fresh hsz) (nofr _ hsz) (fun b o _ e => Heap.get?_push_of_some _ (hx b o e)) (fun _ nb _ => nb) hco
/-- as LamX.lam_make2, with one default, a written int: its tuple is new, too -/
theorem make1 {T : List (Addr × Str)} {c P : Addr} {params : Arguments} {body : Expr} {scope : Scope} {pos p2 : Pos} {i : Int} {j : Nat} {E : Value → Shared → Prop} {Q : Value → Shared → Prop} (I : Inv X pins σ H s) (TB : TabB X.base X.mg c P) (hcode : X.env.code = .ref c)
    (hm : (P, X.env.qual ++ "<lambda>") ∈ T) (hu : ∀ p ∈ T, p.1 = P → p.2 = X.env.qual ++ "<lambda>") (hT : Tabs T H) (hd1 : params.defaults = [.Constant (.int i) j p2]) (hk0 : params.kw_defaults = []) (hfree : ∀ y ∈ scope.names, y.2 = .free → ∃ c, X.env.cells.lookup y.1 = some c)
    (h : ∀ (f c' T0 : Addr) (doc pm ctv : Value) (tk : Tok) (H1 : Hp) (s' : Shared), Inv X pins σ H1 s' → ExtN H H1 → Tabs T H1 →
      s'.heap.get? f = some (klo (X.env.qual ++ "<lambda>") params body scope (cloFrom X.env.cells scope.names []) (.ref T0) doc pm c' ctv) → H1 f = none → f ∉ frs X.stack →
      s'.heap.get? T0 = some (PySem.W.kdv_tup [.int i tk]) → H1 T0 = none → T0 ∉ frs X.stack → H1 c' = some (CodeO c' (X.env.qual ++ "<lambda>")) → Q (.ref f) s') :
    wpAny (model X.prog X.w) X.A (eval (.Lambda params body scope pos) X.env) Q E s := by
  obtain ⟨ps, hP, ht, ha⟩ := hT _ hm
  refine PySem.W.kdv_lam (by rw [hd1]; rfl) hk0 ?_
  rw [hd1]
  refine PySem.W.kdv_all1 (wpAny_Constant_int ?_)
  refine PySem.W.kdv_all0 ?_
  rw [makeFunction_eq]
  simp only [List.zip_nil_right, List.filterMap_nil, List.isEmpty_nil, if_true, pure_bind, List.isEmpty_cons, Bool.false_eq_true, if_false]
  refine wpAny_bind (wpAny_newTextTuple ?_)
  obtain ⟨hp, g, dr, tt, os⟩ := s
  have I0 : Inv X pins σ H ⟨hp.push (PySem.W.kdv_tup [.int i tt]), g, dr, tt + 1, os⟩ := I.kept (t' := tt + 1) fun b o e => Heap.get?_push_of_some _ e
  have hT0 : (hp.push (PySem.W.kdv_tup [.int i tt])).get? hp.objs.size = some (PySem.W.kdv_tup [.int i tt]) := Heap.get?_push_size _ rfl
  have nT0 : H hp.objs.size = none := I.hok.fresh (Nat.le_refl _)
  have fT0 : hp.objs.size ∉ frs X.stack := fun z => by
    rcases List.mem_cons.mp (I.stkSub _ z) with e | e
    · have h1 := I.lt
      rw [← e] at h1
      exact Nat.lt_irrefl _ h1
    · exact I.nofs (Nat.le_refl _) e
  have nTP : hp.objs.size ≠ P := fun z => by rw [z, hP] at nT0; cases nT0
  exact tail I0 TB hcode hm hu hT hfree fun f c' doc pm ctv H1 s' I1 eN T1 hf nf ff kp kn hco => h f c' hp.objs.size doc pm ctv tt H1 s' I1 eN T1 hf nf ff (kp _ _ nTP hT0) (kn _ nT0 (Heap.lt_size hT0)) fT0 hco
/-- no default -/
theorem make0 {T : List (Addr × Str)} {c P : Addr} {params : Arguments} {body : Expr} {scope : Scope} {pos : Pos} {E : Value → Shared → Prop} {Q : Value → Shared → Prop} (I : Inv X pins σ H s) (TB : TabB X.base X.mg c P) (hcode : X.env.code = .ref c)
    (hm : (P, X.env.qual ++ "<lambda>") ∈ T) (hu : ∀ p ∈ T, p.1 = P → p.2 = X.env.qual ++ "<lambda>") (hT : Tabs T H) (hdef : defaultsOf params X.env = ([], [])) (hfree : ∀ y ∈ scope.names, y.2 = .free → ∃ c, X.env.cells.lookup y.1 = some c)
    (h : ∀ (f c' : Addr) (doc pm ctv : Value) (H1 : Hp) (s' : Shared), Inv X pins σ H1 s' → ExtN H H1 → Tabs T H1 →
      s'.heap.get? f = some (klo (X.env.qual ++ "<lambda>") params body scope (cloFrom X.env.cells scope.names []) .none doc pm c' ctv) → H1 f = none → f ∉ frs X.stack → H1 c' = some (CodeO c' (X.env.qual ++ "<lambda>")) → Q (.ref f) s') :
    wpAny (model X.prog X.w) X.A (eval (.Lambda params body scope pos) X.env) Q E s :=
  lam_make2 I TB hcode hm hu hT hdef hfree fun f c' pm ctv H1 s' I1 eN T1 hf nf ff hco => h f c' .none pm ctv H1 s' I1 eN T1 hf nf ff hco
end
/-! ### its names: captured ones, globals, and perhaps parameters that no slot of the maker bears -/
structure LamS (N : List Str) (sc scope : Scope) : Prop where
  kind : scope.kind = .function
  co : scope.isCoroutine = false
  gen : scope.isGenerator = false
  cel : ∀ y ∈ scope.names, y.2 ≠ .cell
  own : ∀ y ∈ N, scope.names.lookup y ≠ some .local
  free : ∀ y ∈ scope.names, y.2 = .free → sc.names.lookup y.1 = some .cell ∨ sc.names.lookup y.1 = some .free
def lamSB (N : List Str) (sc scope : Scope) : Bool :=
  decide (scope.kind = .function) && !scope.isCoroutine && !scope.isGenerator && N.all (fun y => !decide (scope.names.lookup y = some .local)) && scope.names.all fun y => !decide (y.2 = .cell) && (!decide (y.2 = .free) || decide (sc.names.lookup y.1 = some .cell) || decide (sc.names.lookup y.1 = some .free))
theorem lamS_by {N : List Str} {sc scope : Scope} (h : lamSB N sc scope = true) : LamS N sc scope := by
  unfold lamSB at h
  simp only [Bool.and_eq_true, Bool.or_eq_true, Bool.not_eq_true', decide_eq_true_eq, decide_eq_false_iff_not, List.all_eq_true] at h
  obtain ⟨⟨⟨⟨h1, h2⟩, h3⟩, h5⟩, h4⟩ := h
  refine ⟨h1, h2, h3, fun y hy => (h4 y hy).1, h5, fun y hy e => ?_⟩
  rcases (h4 y hy).2 with (z | z) | z
  · exact absurd e z
  · exact .inl z
  · exact .inr z
theorem LamS.has {X : Cx} {scope : Scope} (L : LamS X.N X.env.scope scope) (ok : X.Ok) : ∀ y ∈ scope.names, y.2 = .free → ∃ c, X.env.cells.lookup y.1 = some c := fun y hy e => by
  rcases L.free y hy e with k | k
  · exact ok.has _ (.inl k)
  · exact ok.has _ (.inr k)
section
variable {X : Cx} {pins : List (Addr × Obj)} {σ : L2.St} {H HZ : Hp} {s s1 : Shared}
theorem start {A : Around} {outer : List Env} {E : XK} {scope : Scope} {f c' : Addr} {h₁ : Heap} {tk : Nat} {m : Str → Option Value} (I : Inv X pins σ H s) (L : LamS X.N X.env.scope scope) (e0 : Env0 X.prog X.w X.K X.mg X.base A outer s1 HZ) (hd : A.handled = none)
    (un : Un (frs X.stack) [] H HZ s.heap s1.heap) (hns : h₁.Ns s1.heap.objs.size m) (kp : ∀ b o, s1.heap.get? b = some o → h₁.get? b = some o) :
    Inv (lamCx X A outer s1 HZ E scope f c') [] σ HZ { s1 with heap := h₁, toks := tk } := by
  have hfree := L.has I.ok
  have cm : ∀ {y c}, (cloFrom X.env.cells scope.names []).lookup y = some c → X.env.cells.lookup y = some c := fun {y c} e => by
    rcases cloFrom_mem (PySem.mem_of_lookup e) with hm | ⟨h1, h2⟩
    · cases hm
    · obtain ⟨c1, hc⟩ := hfree _ h1 rfl
      have hc : X.env.cells.lookup y = some c1 := hc
      have e2 : c = c1 := by
        rw [h2, hc] <;> rfl
      rw [e2]
      exact hc
  have look : ∀ {y}, scope.names.lookup y = some .free → ∃ c, (cloFrom X.env.cells scope.names []).lookup y = some c := fun {y} hl => by
    have hy : (y, NameKind.free) ∈ scope.names := PySem.mem_of_lookup hl
    exact mem_lookup (cloFrom_has (cells := X.env.cells) (acc := []) hy)
  have cellK : ∀ {c : Addr} {v : Option Value}, H c = none → s.heap.IsCell c v → h₁.IsCell c v := fun {c v} n ⟨o, ho, hd⟩ => by
    obtain ⟨sl, q⟩ := un.any ho n (by simp)
    exact ⟨_, kp _ _ q, hd⟩
  have noA : ∀ b : Addr, b ∉ (lamCx X A outer s1 HZ E scope f c').ex := fun b z => absurd (show b ∈ ([] : List Addr) from z) (by simp)
  refine ⟨⟨e0.mod, L.kind, rfl, rfl, Nat.le_refl _, fun y z c e1 e2 => I.ok.inj y z c (cm e1) (cm e2), fun y hy => ?_, fun y c z _ => ?_, fun _ => hd, Around.frames_deeper e0.frames, .inr ⟨rfl, rfl⟩, fun b z => absurd z (noA b), e0.bs, e0.bsz, fun b _ _ => noA b,
      fun b z => absurd z (noA b), e0.funs, e0.frf⟩,
    rfl, e0.bare, Un.kept kp, ⟨_, hns, fun i y v e1 e2 e3 => ?_⟩, fun y c e => ?_, e0.hok.fresh (Nat.le_refl _), fun y c e => ?_, fun q hq => absurd (show q ∈ ([] : List (Addr × Obj)) ++ [] from hq) (by simp), e0.hok.kept kp, I.len⟩
  · have hy : scope.names.lookup y = some .cell ∨ scope.names.lookup y = some .free := hy
    rcases hy with hy | hy
    · exact absurd rfl (L.cel _ (PySem.mem_of_lookup hy))
    · exact look hy
  · have z : false = true := z
    cases z
  · have e3 : Vis scope y := e3
    rcases e3 with k | k | k
    · exact absurd k (L.own _ (List.mem_of_getElem? e1))
    · exact absurd rfl (L.cel _ (PySem.mem_of_lookup k))
    · obtain ⟨m, hn, hl⟩ := I.loc
      have hvis : Vis X.env.scope y := (L.free _ (PySem.mem_of_lookup k) rfl).elim (fun k => .inr (.inl k)) (fun k => .inr (.inr k))
      obtain ⟨w', r, q⟩ := hl i y v e1 e2 hvis
      obtain ⟨c2, h2⟩ := look k
      refine ⟨w', r, .inr ⟨.inr k, c2, h2, ?_⟩⟩
      have c1 := cm h2
      rcases q with ⟨k', _⟩ | ⟨_, c3, e', z⟩
      · have k' : X.env.scope.names.lookup y = some .local := k'
        rcases L.free _ (PySem.mem_of_lookup k) rfl with k2 | k2 <;> rw [show X.env.scope.names.lookup y = _ from k2] at k' <;> cases k'
      · rw [c1] at e'
        cases e'
        exact cellK (I.freeC y _ c1) z
  · obtain ⟨w', z⟩ := I.cell y c (cm e)
    exact ⟨w', cellK (I.freeC y c (cm e)) z⟩
  · obtain ⟨v, o, ho, hd⟩ := I.cell y c (cm e)
    exact un.free c o ho (I.freeC y c (cm e)) (by simp)
/-- x(), in the def that got the lambda; what it raises is wished for at the slots there -/
theorem act {CXg : CXT} {Eg : XK} {Ng : List Str} {qg : Str} {sg : Scope} {g f c' : Addr} {cdg pm ctv dV doc : Value} {params : Arguments} {body : Expr} {scope : Scope} {k i : Nat} {a : Str} {pn : List (Addr × Obj)} {xe : Value → Shared → Prop} {W : WX} {tb : XK → TE} {p1 p2 : Pos} {binds : List (Str × Value)}
    (I : Inv X pins σ H s) (L : LamS X.N X.env.scope scope) (hf : s.heap.get? f = some (klo (X.env.qual ++ "<lambda>") params body scope (cloFrom X.env.cells scope.names []) dV doc pm c' ctv)) (hfn : H f = none) (hfr : f ∉ frs X.stack)
    (hbind : ∀ s' : Shared, (∀ b o, s.heap.get? b = some o → H b = none → b ∉ frs X.stack → s'.heap.get? b = some o) → BindsTo s' (klf (X.env.qual ++ "<lambda>") params body scope (cloFrom X.env.cells scope.names []) dV doc pm (.ref c') ctv) ⟨[], []⟩ binds) (hloc : ∀ y ∈ binds, scope.names.lookup y.1 = some .local)
    (tk : Takes ((cxOf CXg X.prog X.w X.K X.mg X.base Ng qg sg g cdg X.A X.stack s H Eg).tr pn xe) W) (hr : Room (k + 1) (X.A.deeper (envOfC qg sg s.heap.objs.size g cdg)))
    (hbody : ∀ (A : Around) (outer : List Env) (s : Shared) (H : Hp) (E : XK), Room k (A.deeper (lamEnv X scope s.heap.objs.size f c')) → PE (lamCx X A outer s H E scope f c') body (tb E))
    (hN : Ng[i]? = some a) (hv : Vis sg a) (hd : (a == ("__debug__" : Str)) = false := by decide) (hcd : (a == ("__classdict__" : Str)) = false := by decide) :
    PE ((cxOf CXg X.prog X.w X.K X.mg X.base Ng qg sg g cdg X.A X.stack s H Eg).tr pn xe) (.Call (.Name a p1) [] [] p2)
      (fun σZ HZ Q => σZ[i]? = some (some (.ref f)) ∧ HZ c' = some (CodeO c' (X.env.qual ++ "<lambda>")) ∧ tb (WE W σZ) σ HZ Q) := by
  refine ⟨fun pinsZ sZ σZ HZ Q IZ h => ?_⟩
  obtain ⟨hs, hc, ht⟩ := h
  refine wpAny_Call_Name_kw (thn ((pe_var (pos := p1) (i := i) hN hv hd hcd).run pinsZ sZ σZ HZ (fun v H1 => v = .ref f ∧ H1 = HZ) IZ ⟨.ref f, hs, rfl, rfl⟩) fun u s1 ⟨v, H1, I1, r1, q1⟩ => ?_)
  obtain ⟨ev, eH⟩ := q1
  subst ev
  rw [eH] at I1
  obtain rfl : u = Value.ref f := r1
  have kpt : ∀ b o, s.heap.get? b = some o → H b = none → b ∉ frs X.stack → s1.heap.get? b = some o := fun b o e n nf => I1.base.keep b o e n nf (fun z => nomatch (show b ∈ ([] : List Addr) from z))
  have of1 := kpt f _ hf hfn hfr
  refine PySem.W.callWith_F0 ⟨_, _, _, _, of1⟩ ?_
  have un : Un (frs X.stack) [] H HZ s.heap s1.heap := I1.base
  obtain ⟨⟨oc, vs, t, hoc, hdc, hvc⟩, _, _⟩ := I1.hok c' _ hc
  have rc : codeAny (model X.prog X.w) (X.A.deeper (envOfC qg sg s.heap.objs.size g cdg)) (.call (.ref f) ⟨[], []⟩) (CR (L2.CX X.prog X.w) (envOfC qg sg s.heap.objs.size g cdg :: X.stack) X.prog X.w HZ s1 Q (WE W σZ)) s1 := by
    refine PySem.W.kla_callFunE hr.depth of1 rfl L.co L.gen rfl ⟨c', oc, vs, t, rfl, hoc, hdc, hvc⟩ ?_
    refine hbind s1 kpt _ _ _ _ ?_
    refine wpAny_newFunctionEnv (fun y hy => L.cel y hy) hloc (fun h₁ hns hsb => ⟨I1.nolimit.fresh _ hsb, ?_⟩) L.kind
    show codeAny _ _ (.expr body (lamEnv X scope s1.heap.objs.size f c')) _ _
    have kp : ∀ b o, s1.heap.get? b = some o → h₁.get? b = some o := fun b o e => hsb.extBut b o (Nat.ne_of_lt (Heap.lt_size e)) (Heap.get?_push_of_some _ e)
    have J : Inv (lamCx X (X.A.deeper (envOfC qg sg s.heap.objs.size g cdg)) (envOfC qg sg s.heap.objs.size g cdg :: X.stack) s1 HZ (WE W σZ) scope f c') [] σ HZ { s1 with heap := h₁, toks := s1.toks + binds.length } :=
      start I L I1.env0 hr.hd un hns kp
    refine PySem.W.kla_codeExpr (wpAny_mono ((hbody _ _ s1 HZ _ (hr.deeper _)).run [] _ _ HZ Q J ht) (fun v s' hq => ?_) fun e s' hq => hq)
    obtain ⟨w', H', J', rv, q⟩ := hq
    exact ⟨w', H', J'.os, J'.bare, J'.base, J'.hok, rv, q⟩
  have hx := passAt tk σZ
  refine wpAny_call (codeAny_mono rc fun r s' hq => ?_)
  cases r with
  | error e => exact hx pinsZ HZ s1 e s' I1 hq
  | ok fl =>
    cases fl with
    | ret u => exact I1.after hq
    | next => exact False.elim hq
    | brk => exact False.elim hq
    | cont => exact False.elim hq
end
/-- the def that calls what it got: a calls it; TT: what it makes of the lambda's reading -/
def GivesTo (X : Cx) (Ng : List Str) (x : Str) (sg : Scope) (g : Addr) (cdg : Value) (bg : List Stmt) (a : Str) (q : Str) (TT : (XK → Hp → VK → Prop) → Hp → VK → Prop) : Prop :=
  ∀ (f c' : Addr) (s : Shared) (H : Hp) (Q : VK) (tl : XK → Hp → VK → Prop),
    (∀ (W : WX) (pn : List (Addr × Obj)) (xe : Value → Shared → Prop) (p1 p2 : Pos), Takes ((cxOf C8.CX0 X.prog X.w X.K X.mg X.base Ng x sg g cdg X.A X.stack s H C8.E0).tr pn xe) W →
      PE ((cxOf C8.CX0 X.prog X.w X.K X.mg X.base Ng x sg g cdg X.A X.stack s H C8.E0).tr pn xe) (.Call (.Name a p1) [] [] p2) (fun σZ HZ Q => σZ[0]? = some (some (.ref f)) ∧ HZ c' = some (CodeO c' q) ∧ tl (WE W σZ) HZ Q)) →
    H c' = some (CodeO c' q) → TT tl H Q →
    ∃ t, PSs (cxOf C8.CX0 X.prog X.w X.K X.mg X.base Ng x sg g cdg X.A X.stack s H C8.E0).nox bg t ∧ t { nx := fun _ H' => Q .non H', rt := Q } (L2.start Ng [.ref f]) H
section
variable {X : Cx}
/-- x(lambda: body) -/
theorem pe_heard0 {T : List (Addr × Str)} {TT : (XK → Hp → VK → Prop) → Hp → VK → Prop} {x a : Str} {g c P : Addr} {k : Nat} {pg : Arguments} {bg : List Stmt} {sg : Scope} {dV kV doc pm cdv ct oc : Value} {an od : Option Addr} {osl : Array (Option Value)} {Ng : List Str}
    {params : Arguments} {body : Expr} {scope : Scope} {t : XK → TE} {p lpos pos : Pos} (hg : Gl X x) (hm : X.mg x = some (.ref g)) (hk : PySem.W.keepIn X.K (.ref g) = true)
    (lk : X.K.lookup g = some ⟨oc, od, .func (PySem.W.fnOf x x pg bg sg dV kV doc pm an cdv ct), osl⟩) (hcg : PySem.W.codeIn X.K cdv x = true) (hb : L2.Binds X.K (PySem.W.fnOf x x pg bg sg dV kV doc pm an cdv ct) [a] []) (Sg : FnScope Ng [a] sg) (hNg : Ng[0]? = some a) (hva : Vis sg a)
    (hG : GivesTo X Ng x sg g cdv bg a (X.env.qual ++ "<lambda>") TT)
    (TB : TabB X.base X.mg c P) (hcode : X.env.code = .ref c) (hmT : (P, X.env.qual ++ "<lambda>") ∈ T) (hu : ∀ p ∈ T, p.1 = P → p.2 = X.env.qual ++ "<lambda>") (hr : Room (k + 2) X.A) (L : LamS X.N X.env.scope scope) (hdef : defaultsOf params X.env = ([], []))
    (hbind : ∀ (q : Str) (cl : List (Str × Addr)) (doc pm cv ctv : Value), bindArgs (klf q params body scope cl .none doc pm cv ctv) ⟨[], []⟩ = pure [])
    (hbody : ∀ (A : Around) (outer : List Env) (s : Shared) (H : Hp) (E : XK) (f c' : Addr), Room k (A.deeper (lamEnv X scope s.heap.objs.size f c')) → PE (lamCx X A outer s H E scope f c') body (t E))
    (hdb : (x == ("__debug__" : Str)) = false := by decide) (hd : (a == ("__debug__" : Str)) = false := by decide) (hcd : (a == ("__classdict__" : Str)) = false := by decide) :
    PE X (.Call (.Name x p) [.Lambda params body scope lpos] [] pos) (tLam T TT t) := by
  refine ⟨fun pins s σ H Q I h => ?_⟩
  obtain ⟨hT, h⟩ := h
  refine wpAny_Call_Name_kw (ld_glob I hg hm ?_ hdb)
  refine PySem.W.callWith_K (h₀ := X.base) I.ok.mod.kin hk ?_ (by rfl) (by rfl)
  show wpAny _ _ (spliced ((false, eval (.Lambda params body scope lpos) X.env) :: backTo pos (starEach [] X.env))) _ _ s
  refine Calls.spliced_cons (make0 I TB hcode hmT hu hT hdef (L.has I.ok) fun f c' doc' pm' ctv H1 s' I1 eN T1 hf hfn hfr hco => ?_)
  refine Calls.spliced_nil ⟨I1.kIn, ?_⟩
  have rc : codeAny (model X.prog X.w) X.A (.call (.ref g) ⟨[.ref f], []⟩) (CR C8.CX0 X.stack X.prog X.w H1 s' Q C8.E0) s' := by
    refine run_ofS (N := Ng) (ps := [a]) (us := [.ref f]) (vs := [.ref f]) lk hcg Sg hr I1.env0 (hb s' [.ref f] I1.kIn rfl) (.cons rfl .nil) rfl fun hr' => ?_
    obtain ⟨t', ht', hq'⟩ := hG f c' s' H1 Q (fun E H' Q' => t E σ H' Q') (fun W pn xe p1 p2 tk => act (i := 0) (tb := t) (binds := []) I1 L hf hfn hfr (fun s2 _ => BindsTo.of_eq (hbind _ _ _ _ _ _)) (fun y hy => absurd hy (by simp)) tk hr' (fun A outer s H E hr2 => hbody A outer s H E f c' hr2) hNg hva hd hcd) hco (h H1 eN T1)
    exact ⟨t', ht'.nox, hq'⟩
  refine wpAny_call (codeAny_mono rc fun r s2 hq => ?_)
  cases r with
  | error e => exact (show False from hq).elim
  | ok fl =>
    cases fl with
    | ret u => exact I1.after hq
    | next => exact False.elim hq
    | brk => exact False.elim hq
    | cont => exact False.elim hq
/-- x(lambda y=i: body) -/
theorem pe_heard1 {T : List (Addr × Str)} {TT : (XK → Hp → VK → Prop) → Hp → VK → Prop} {x a y : Str} {g c P : Addr} {k : Nat} {pg : Arguments} {bg : List Stmt} {sg : Scope} {dV kV doc pm cdv ct oc : Value} {an od : Option Addr} {osl : Array (Option Value)} {Ng : List Str} {i : Int} {j : Nat} {p3 : Pos}
    {params : Arguments} {body : Expr} {scope : Scope} {t : XK → TE} {p lpos pos : Pos} (hg : Gl X x) (hm : X.mg x = some (.ref g)) (hk : PySem.W.keepIn X.K (.ref g) = true)
    (lk : X.K.lookup g = some ⟨oc, od, .func (PySem.W.fnOf x x pg bg sg dV kV doc pm an cdv ct), osl⟩) (hcg : PySem.W.codeIn X.K cdv x = true) (hb : L2.Binds X.K (PySem.W.fnOf x x pg bg sg dV kV doc pm an cdv ct) [a] []) (Sg : FnScope Ng [a] sg) (hNg : Ng[0]? = some a) (hva : Vis sg a)
    (hG : GivesTo X Ng x sg g cdv bg a (X.env.qual ++ "<lambda>") TT)
    (TB : TabB X.base X.mg c P) (hcode : X.env.code = .ref c) (hmT : (P, X.env.qual ++ "<lambda>") ∈ T) (hu : ∀ p ∈ T, p.1 = P → p.2 = X.env.qual ++ "<lambda>") (hr : Room (k + 2) X.A) (L : LamS X.N X.env.scope scope) (hd1 : params.defaults = [.Constant (.int i) j p3]) (hk0 : params.kw_defaults = []) (hyl : scope.names.lookup y = some .local)
    (hbind : ∀ (s : Shared) (T0 : Addr) (tk : Tok) (q : Str) (cl : List (Str × Addr)) (doc pm cv ctv : Value), s.heap.get? T0 = some (PySem.W.kdv_tup [.int i tk]) → BindsTo s (klf q params body scope cl (.ref T0) doc pm cv ctv) ⟨[], []⟩ [(y, .int i tk)])
    (hbody : ∀ (A : Around) (outer : List Env) (s : Shared) (H : Hp) (E : XK) (f c' : Addr), Room k (A.deeper (lamEnv X scope s.heap.objs.size f c')) → PE (lamCx X A outer s H E scope f c') body (t E))
    (hdb : (x == ("__debug__" : Str)) = false := by decide) (hd : (a == ("__debug__" : Str)) = false := by decide) (hcd : (a == ("__classdict__" : Str)) = false := by decide) :
    PE X (.Call (.Name x p) [.Lambda params body scope lpos] [] pos) (tLam T TT t) := by
  refine ⟨fun pins s σ H Q I h => ?_⟩
  obtain ⟨hT, h⟩ := h
  refine wpAny_Call_Name_kw (ld_glob I hg hm ?_ hdb)
  refine PySem.W.callWith_K (h₀ := X.base) I.ok.mod.kin hk ?_ (by rfl) (by rfl)
  show wpAny _ _ (spliced ((false, eval (.Lambda params body scope lpos) X.env) :: backTo pos (starEach [] X.env))) _ _ s
  refine Calls.spliced_cons (make1 I TB hcode hmT hu hT hd1 hk0 (L.has I.ok) fun f c' T0 doc' pm' ctv tk1 H1 s' I1 eN T1 hf hfn hfr hT0 nT0 fT0 hco => ?_)
  refine Calls.spliced_nil ⟨I1.kIn, ?_⟩
  have rc : codeAny (model X.prog X.w) X.A (.call (.ref g) ⟨[.ref f], []⟩) (CR C8.CX0 X.stack X.prog X.w H1 s' Q C8.E0) s' := by
    refine run_ofS (N := Ng) (ps := [a]) (us := [.ref f]) (vs := [.ref f]) lk hcg Sg hr I1.env0 (hb s' [.ref f] I1.kIn rfl) (.cons rfl .nil) rfl fun hr' => ?_
    obtain ⟨t', ht', hq'⟩ := hG f c' s' H1 Q (fun E H' Q' => t E σ H' Q') (fun W pn xe p1 p2 tk => act (i := 0) (tb := t) (binds := [(y, .int i tk1)]) I1 L hf hfn hfr (fun s2 kp => hbind s2 T0 tk1 _ _ _ _ _ _ (kp _ _ hT0 nT0 fT0)) (fun z hz => by
      have : z = (y, .int i tk1) := by simpa using hz
      rw [this]; exact hyl) tk hr' (fun A outer s H E hr2 => hbody A outer s H E f c' hr2) hNg hva hd hcd) hco (h H1 eN T1)
    exact ⟨t', ht'.nox, hq'⟩
  refine wpAny_call (codeAny_mono rc fun r s2 hq => ?_)
  cases r with
  | error e => exact (show False from hq).elim
  | ok fl =>
    cases fl with
    | ret u => exact I1.after hq
    | next => exact False.elim hq
    | brk => exact False.elim hq
    | cont => exact False.elim hq
end
end LamD

/-! KE1 -/
set_option Elab.async false
set_option linter.all false
set_option maxRecDepth 100000
set_option maxHeartbeats 4000000
/-! need_number, need_lamps, need_burns, need_table; the class Table as a value. -/
namespace K6
open PySem PySem.Spec L2 KL
abbrev sNeedNum : Stmt := top 12
abbrev sNeedLamps : Stmt := top 15
abbrev sNeedTable : Stmt := top 24
abbrev sNeedBurns : Stmt := top 43
/-- an error of the class at C with this field leaves -/
abbrev Rs (C : Addr) (fs : List (Str × V)) (H : Hp) (E : XK) : Prop := ∀ H' d, Same H H' → H d = none → H' d = some (.xd fs) → E (.ref C) (some d) H'
theorem rs_here {C : Addr} {fs : List (Str × V)} {H : Hp} {E : XK} (r : Rs C fs H E) : ∀ d, H d = none → E (.ref C) (some d) (upd H d (.xd fs)) := fun d hd => r _ d (sm_upd (Same.refl H) hd) hd upd_same
theorem rs_on {C : Addr} {fs : List (Str × V)} {H H1 : Hp} {E : XK} (r : Rs C fs H E) (s : Same H H1) : Rs C fs H1 E := fun H' d s' hd e => r H' d (Same.trans s s') (s.free hd) e
/-- no integer in a .. b -/
def BadN (K : PySem.W.Frag) (H : Hp) (x : V) (a b : Int) : Prop := IsV K H x false ∨ ∃ i : Int, x = .int i ∧ ¬ (a ≤ i ∧ i ≤ b)
def spNeedNum (K : PySem.W.Frag) (CN : Addr) : Sp := fun vs H Q E => ∃ (x part : V) (a b : Int), vs = [x, part, .int a, .int b] ∧ ((∃ i : Int, x = .int i ∧ a ≤ i ∧ i ≤ b ∧ Q .non H) ∨ (BadN K H x a b ∧ Rs CN [("part", part)] H E))
def spNeedLamps : Sp := fun vs H Q _ => ∃ n : Nat, vs = [.int n] ∧ 1 ≤ n ∧ n ≤ 8 ∧ Q .non H
def spNeedBurns (K : PySem.W.Frag) (CN : Addr) : Sp := fun vs H Q E => ∃ (x : V), vs = [x] ∧ ((∃ i : Int, x = .int i ∧ 0 ≤ i ∧ i ≤ 1 ∧ Q .non H) ∨ (BadN K H x 0 1 ∧ Rs CN [("part", .str "burns")] H E))
/-- what the written part says of the class Table -/
structure TabC (K : PySem.W.Frag) (mg : Str → Option Value) (C : Addr) : Prop where
  gC : mg "Table" = some (.ref C)
  cl : Cls K C
  nL : NoAttr K C "lamps"
  nG : NoAttr K C "goals"
  ha : PySem.W.findIn K (.ref C) "__class__" = some (some (.builtin "object.__class__"))
  hn : PySem.W.specialIn K (.builtin "object.__class__") "__get__" = some (some (.builtin "getset_descriptor.__get__"))
  ht : PySem.W.takesIn K (.builtin "object.__class__") = some true
  hm : PySem.W.mroIn K C (.type "object") = some true
  kt : PySem.W.kitOne K (.ref C) (.ref C) = some true
  kn : PySem.W.kitOne K (.type "NoneType") (.ref C) = some false
  ki : PySem.W.kitOne K (.type "int") (.ref C) = some false
  kl : PySem.W.kitOne K (.type "list") (.ref C) = some false
  ks : PySem.W.kitOne K (.type "str") (.ref C) = some false
  kb : PySem.W.kitOne K (.type "bool") (.ref C) = some false
/-- at p: a Table -/
def TabAt (C : Addr) (H : Hp) (p : Addr) (n : Nat) (gl : List Nat) : Prop := ∃ (dx t : Addr) (fs : List (Str × V)), H p = some (.ins C dx fs) ∧ fs.lookup ("lamps" : Str) = some (V.int (n : Int)) ∧ fs.lookup ("goals" : Str) = some (V.ref t) ∧ H t = some (.tup (vN gl))
theorem TabAt.mono {C : Addr} {H H' : Hp} {p : Addr} {n : Nat} {gl : List Nat} (s : Same H H') (h : TabAt C H p n gl) : TabAt C H' p n gl := by
  obtain ⟨dx, t, fs, h1, h2, h3, h4⟩ := h
  exact ⟨dx, t, fs, s _ _ h1, h2, h3, s _ _ h4⟩
/-- isinstance(x, Table) is b -/
def TyT (K : PySem.W.Frag) (C : Addr) (H : Hp) (x : V) (b : Bool) : Prop := ∃ t, TyX K H x t ∧ PySem.W.kitOne K t (.ref C) = some b
section
variable {K : PySem.W.Frag} {mg : Str → Option Value} {C : Addr} {H : Hp}
theorem tyt_tab (T : TabC K mg C) {p : Addr} {n : Nat} {gl : List Nat} (h : TabAt C H p n gl) : TyT K C H (.ref p) true := by
  obtain ⟨dx, t, fs, h1, _⟩ := h
  exact ⟨_, .base (.ins h1 T.cl T.ha T.hn T.ht T.hm), T.kt⟩
theorem tyt_non (T : TabC K mg C) : TyT K C H .non false := ⟨_, .base .non, T.kn⟩
theorem tyt_int (T : TabC K mg C) (i : Int) : TyT K C H (.int i) false := ⟨_, .base (.int i), T.ki⟩
theorem tyt_bl (T : TabC K mg C) (i : Bool) : TyT K C H (.bl i) false := ⟨_, .base (.bl i), T.kb⟩
theorem tyt_str (T : TabC K mg C) (i : Str) : TyT K C H (.str i) false := ⟨_, .base (.str i), T.ks⟩
theorem tyt_lst (T : TabC K mg C) {a : Addr} {xs : List V} (h : H a = some (.lst xs)) : TyT K C H (.ref a) false := ⟨_, .base (.lst h), T.kl⟩
end
def spNeedTable (K : PySem.W.Frag) (CT CB : Addr) : Sp := fun vs H Q E => ∃ (x part : V), vs = [x, part] ∧ ((TyT K CT H x true ∧ Q .non H) ∨ (TyT K CT H x false ∧ Rs CB [("part", part)] H E))
/-- need_table, with its default -/
structure CalT (P : Program) (w : World) (K : PySem.W.Frag) (mg : Str → Option Value) (base : Heap) (k : Nat) (CT CB : Addr) : Prop where
  ex : ∃ (f : Addr) (fd : FuncData) (ds : List Value), FnOk P w K mg base (L2.CX P w) k f fd ["value", "part"] (spNeedTable K CT CB) ∧ mg "need_table" = some (.ref f) ∧ PySem.W.keepIn K (.ref f) = true ∧ Binds K fd ["value", "part"] [] ∧ Binds K fd ["value", "part"] ds ∧ Vals [V.str "table"] ds
theorem CalT.mono {P : Program} {w : World} {K : PySem.W.Frag} {mg : Str → Option Value} {base : Heap} {j k : Nat} {CT CB : Addr} (c : CalT P w K mg base j CT CB) (h : j ≤ k) : CalT P w K mg base k CT CB := by
  obtain ⟨f, fd, ds, F, r⟩ := c.ex
  exact ⟨f, fd, ds, F.mono h, r⟩
section
variable {X : Cx} {CX : CXT} {k j : Nat} {f CT CB : Addr} {fd : FuncData} {ps : List Str} {sp : Sp} {dvs : List V} {ds : List Value} {E : St → XK} {x : Str} {p pos : Pos} {e : Expr} {es : List Expr} {t : TA}
theorem run_fnSD {pins : List (Addr × Obj)} {σ : St} {H : Hp} {s : Shared} {Q : VK} {us : List Value} {vs : List V} (F : FnOk X.prog X.w X.K X.mg X.base CX k f fd ps sp) (hr : Room k X.A) (hb : Binds X.K fd ps ds) (hd : Vals dvs ds) (hx : PassesAt CX X σ (E σ))
    (I : Inv X pins σ H s) (r : Vals vs us) (h : sp (vs ++ dvs) H Q (E σ)) : wpAny (model X.prog X.w) X.A (call (.ref f) us) (EP X pins σ Q) X.xe s := by
  have r2 : Vals (vs ++ dvs) (us ++ ds) := r.append hd
  have hl : (us ++ ds).length = ps.length := by rw [← r2.length]; exact F.len _ _ _ _ h
  refine wpAny_call (codeAny_mono (F.run X.A X.stack s H ⟨us, []⟩ (us ++ ds) (vs ++ dvs) Q (E σ) hr I.env0 (hb s us I.kIn hl) r2 h) fun r s' hq => ?_)
  cases r with
  | error e => exact hx pins H s e s' I hq
  | ok fl =>
    cases fl with
    | ret u => exact I.after hq
    | next => exact False.elim hq
    | brk => exact False.elim hq
    | cont => exact False.elim hq
/-- need_table(e) -/
def tNT1 (sp : Sp) (E : St → XK) (t : TA) : TE := fun σ H Q => t σ H fun vs H1 => sp (vs ++ [.str "table"]) H1 Q (E σ)
theorem pcT1 {W : WX} (c : CalT X.prog X.w X.K X.mg X.base k CT CB) (tk : Takes X W) (hr : Room j X.A) (hk : k ≤ j) (hg : Gl X "need_table") (ha : PA X (e :: es) t)
    (he : starEach (e :: es) X.env = (false, eval e X.env) :: starEach es X.env := by rfl) (hpl : (backTo pos (starEach es X.env)).any (·.1) = false := by rfl) :
    PE X (.Call (.Name "need_table" p) (e :: es) [] pos) (tNT1 (spNeedTable X.K CT CB) (WE W) t) := by
  obtain ⟨f, fd, ds, F, g, kp, b0, b, v⟩ := c.ex
  refine ⟨fun pins s σ H Q I h => ?_⟩
  refine wpAny_Call_Name_kw (ld_glob I hg g ?_ (by decide))
  refine PySem.W.callWith_K (h₀ := X.base) I.ok.mod.kin kp (thn (ha.run pos pins s σ H _ I h) fun us s1 ⟨vs, H1, I1, r, q⟩ => ⟨I1.kIn, ?_⟩) he hpl
  exact run_fnSD (E := WE W) F (hr.mono hk) b v (passAt tk σ) I1 r q
/-- need_table(e, e2) -/
theorem pcT2 {W : WX} (c : CalT X.prog X.w X.K X.mg X.base k CT CB) (tk : Takes X W) (hr : Room j X.A) (hk : k ≤ j) (hg : Gl X "need_table") (ha : PA X (e :: es) t)
    (he : starEach (e :: es) X.env = (false, eval e X.env) :: starEach es X.env := by rfl) (hpl : (backTo pos (starEach es X.env)).any (·.1) = false := by rfl) :
    PE X (.Call (.Name "need_table" p) (e :: es) [] pos) (tCallS (spNeedTable X.K CT CB) (WE W) t) := by
  obtain ⟨f, fd, ds, F, g, kp, b0, b, v⟩ := c.ex
  exact pe_callS F (hr.mono hk) hg g kp b0 (fun σ => passAt tk σ) ha (by decide) he hpl
end
section
variable {P : Program} {w : World} {K : PySem.W.Frag} {mg : Str → Option Value} {base : Heap} {CN CB CT fN fB fT : Addr}
theorem scNeedNum : FnScope ["value", "part", "least", "most"] ["value", "part", "least", "most"] (defScope sNeedNum) := ⟨rfl, rfl, rfl, by decide +kernel, rfl, by decide +kernel, by decide +kernel⟩
theorem ok_need_num (D : Df K mg "need_number" sNeedNum) (S : SupX.SupC P w K mg "BadNumber" CN fN ["part"]) (c1 : Cal P w K mg base 2 "is_within" (spIsWithin K)) : Cal P w K mg base 3 "need_number" (spNeedNum K CN) := by
  refine calX (ps := ["value", "part", "least", "most"]) D (fun _ _ _ _ _ _ us hl => match us, hl with | [_, _, _, _], _ => rfl) scNeedNum (fun vs H Q E h => ?_) (fun f cdv A outer s H vs Q E hr h => ?_)
  · obtain ⟨_, _, _, _, rfl, _⟩ := h; rfl
  · obtain ⟨x, part, a, b, rfl, h⟩ := h
    refine ⟨_, pss_one (ps_if (pt_not (pt_val (pc c1 hr (by decide) (by rfl) (pa_cons (pv 0) (pa_cons (pv 2) (pa_cons (pv 3) pa_nil)))))) (pss_one (ps_raise rfl (takes_of rfl rfl rfl rfl) (pmk_sup S (by decide) hr (pa_cons (pv 1) pa_nil) (by rfl)))) pss_nil), ?_⟩
    refine ⟨_, rfl, _, rfl, _, rfl, x, a, b, rfl, ?_⟩
    rcases h with ⟨i, rfl, h1, h2, q⟩ | ⟨hb, r⟩
    · refine .inl ⟨i, rfl, _, rfl, ?_⟩
      have e : (!(decide (a ≤ i) && decide (i ≤ b))) = false := by simp [h1, h2]
      exact iteF' e q
    · rcases hb with iv | ⟨i, rfl, hn⟩
      · exact .inr ⟨iv, _, rfl, iteT ⟨_, rfl, rfl, rs_here r⟩⟩
      · refine .inl ⟨i, rfl, _, rfl, ?_⟩
        have e : (!(decide (a ≤ i) && decide (i ≤ b))) = true := by
          by_cases h1 : a ≤ i
          · have h2 : ¬ i ≤ b := fun z => hn ⟨h1, z⟩
            simp [h1, h2]
          · simp [h1]
        exact iteT' e ⟨_, rfl, rfl, rs_here r⟩
theorem scNeedLamps : FnScope ["lamps"] ["lamps"] (defScope sNeedLamps) := ⟨rfl, rfl, rfl, by decide +kernel, rfl, by decide +kernel, by decide +kernel⟩
theorem ok_need_lamps (D : Df K mg "need_lamps" sNeedLamps) (m8 : ∃ t, mg "MOST_LAMPS" = some (.int 8 t)) (c1 : Cal P w K mg base 3 "need_number" (spNeedNum K CN)) : Cal P w K mg base 4 "need_lamps" spNeedLamps := by
  obtain ⟨t8, m8⟩ := m8
  refine cal (ps := ["lamps"]) D (fun _ _ _ _ _ _ us hl => match us, hl with | [_], _ => rfl) scNeedLamps (fun vs H Q E h => ?_) (fun f cdv A outer s H vs Q E hr h => ?_)
  · obtain ⟨_, rfl, _⟩ := h; rfl
  · obtain ⟨n, rfl, h1, h8, q⟩ := h
    refine ⟨_, pss_one (ps_expr (pc c1 hr (by decide) (by rfl) (pa_cons (pv 0) (pa_cons pe_str (pa_cons pe_int (pa_cons (pe_glob (v := .int 8) (by rfl) m8 ⟨_, rfl⟩) pa_nil)))))), ?_⟩
    exact ⟨_, rfl, _, _, _, _, rfl, .inl ⟨n, rfl, by omega, by omega, q⟩⟩
theorem scNeedBurns : FnScope ["burns"] ["burns"] (defScope sNeedBurns) := ⟨rfl, rfl, rfl, by decide +kernel, rfl, by decide +kernel, by decide +kernel⟩
theorem ok_need_burns (D : Df K mg "need_burns" sNeedBurns) (c1 : Cal P w K mg base 3 "need_number" (spNeedNum K CN)) : Cal P w K mg base 4 "need_burns" (spNeedBurns K CN) := by
  refine calX (ps := ["burns"]) D (fun _ _ _ _ _ _ us hl => match us, hl with | [_], _ => rfl) scNeedBurns (fun vs H Q E h => ?_) (fun f cdv A outer s H vs Q E hr h => ?_)
  · obtain ⟨_, rfl, _⟩ := h; rfl
  · obtain ⟨x, rfl, h⟩ := h
    refine ⟨_, pss_one (ps_expr (pcx (W := fun cls d _ H => E cls d H) c1 (takes_of rfl rfl rfl rfl) hr (by decide) (by rfl) (pa_cons (pv 0) (pa_cons pe_str (pa_cons pe_int (pa_cons pe_int pa_nil)))))), ?_⟩
    exact ⟨_, rfl, _, _, _, _, rfl, h⟩
theorem scNeedTable : FnScope ["value", "part"] ["value", "part"] (defScope sNeedTable) := ⟨rfl, rfl, rfl, by decide +kernel, rfl, by decide +kernel, by decide +kernel⟩
/-- need_table as the top has left it -/
structure DfT (K : PySem.W.Frag) (mg : Str → Option Value) : Prop where
  ex : ∃ (f : Addr) (fd : FuncData), FunD K "need_table" "need_table" (defArgs sNeedTable) (defBody sNeedTable) (defScope sNeedTable) [.str "table"] [] f fd ∧ mg "need_table" = some (.ref f)
theorem ok_need_table (D : DfT K mg) (B : Bt mg) (T : TabC K mg CT) (S : SupX.SupC P w K mg "BadTable" CB fB ["part"]) : CalT P w K mg base 1 CT CB := by
  obtain ⟨f, fd, F, g⟩ := D.ex
  obtain ⟨ds, v, b1⟩ := F.binds1 (ps := ["value", "part"]) 1 0 (by simp) (by rfl) (fun T kV doc pm an cdv ct us its h1 h2 => match us, its, h1, h2 with | [_], [_], _, _ => ⟨_, rfl, rfl⟩)
  have b0 : Binds K fd ["value", "part"] [] := by
    obtain ⟨ds', v', b'⟩ := F.binds1 (ps := ["value", "part"]) 2 1 (by simp) (by rfl) (fun T kV doc pm an cdv ct us its h1 h2 => match us, its, h1, h2 with | [_, _], [_], _, _ => ⟨_, rfl, rfl⟩)
    have v2 : Vals [] ds' := v'
    cases v2
    exact b'
  refine ⟨f, fd, ds, F.ok (N := ["value", "part"]) scNeedTable (fun vs H Q E h => ?_) (fun cdv A outer s H vs Q E hr h => ?_), g, F.kp, b0, b1, v⟩
  · obtain ⟨_, _, rfl, _⟩ := h; rfl
  · obtain ⟨x, part, rfl, h⟩ := h
    refine ⟨_, pss_one (ps_if (pt_not (pt_val (pe_callB call_isi (by rfl) B.isinstance (by decide +kernel) (pa_cons (pv 0) (pa_cons (pe_glob (v := .ref CT) (by rfl) T.gC rfl) pa_nil))))) (pss_one (ps_raise rfl (takes_of rfl rfl rfl rfl) (pmk_sup S (by decide) hr (pa_cons (pv 1) pa_nil) (by rfl)))) pss_nil), ?_⟩
    rcases h with ⟨⟨t, ty, kt⟩, q⟩ | ⟨⟨t, ty, kt⟩, r⟩
    · exact ⟨_, rfl, x, _, t, _, _, rfl, .own CT, ty, kt, _, rfl, iteF q⟩
    · exact ⟨_, rfl, x, _, t, _, _, rfl, .own CT, ty, kt, _, rfl, iteT ⟨_, rfl, rfl, rs_here r⟩⟩
end
end K6

/-! KE2 -/
set_option Elab.async false
set_option linter.all false
set_option maxRecDepth 100000
set_option maxHeartbeats 4000000
namespace K6
open PySem PySem.Spec L2 KL
abbrev sUnlike : Stmt := top 11
abbrev sAreGoals : Stmt := top 25
section
variable {J : It} {n : Nat} {G : Hp → Prop} {Y : Nat → Hp → V → Hp → Prop}
theorem dc_it (w : Walk J n G Y) {g : TG} {tt : TT} {tk tv : TE} {vs : List Nat} {σ : St} {H1 : Hp} {D : Addr} {Qd : Hp → Prop} (Pv : Nat → Hp → Prop) (h0 : Pv 0 (upd H1 D (.dK []))) (hG : ∀ i H, i ≤ n → Pv i H → G H)
    (hs : ∀ i x H H', i < n → Pv i H → Y i H x H' → g x (wipe σ vs) H' fun σ2 H2 => wipe σ2 vs = wipe σ vs ∧ tt σ2 H2 fun b H3 =>
      if b = true then tk σ2 H3 fun y H4 => tv σ2 H4 fun z H5 => ∃ kvs k, y = kV k ∧ H5 D = some (.dK kvs) ∧ kvs.length < sizeLine ∧ Pv (i + 1) (upd H5 D (.dK (putK kvs k z))) else Pv (i + 1) H3) (hd : ∀ H, Pv n H → Qd H) :
    ∃ W : Nat → Nat → Hp → Prop, (∃ m, W 0 m (upd H1 D (.dK []))) ∧ ∀ i m H, W i m H →
      (J.stop i H ∧ Qd H) ∨ (J.go i H ∧ ∃ Nx : Hp → Prop, (∀ H', Nx H' → ∃ m', m' < m ∧ W (i + 1) m' H') ∧ ∀ x H', J.yld i H x H' → g x (wipe σ vs) H' fun σ2 H2 => wipe σ2 vs = wipe σ vs ∧ tt σ2 H2 fun b H3 =>
        if b = true then tk σ2 H3 fun y H4 => tv σ2 H4 fun z H5 => ∃ kvs k, y = kV k ∧ H5 D = some (.dK kvs) ∧ kvs.length < sizeLine ∧ Nx (upd H5 D (.dK (putK kvs k z))) else Nx H3) := by
  refine ⟨fun i m H => m = n - i ∧ i ≤ n ∧ Pv i H, ⟨n, by simp, Nat.zero_le _, h0⟩, ?_⟩
  rintro i m H ⟨rfl, hi, p⟩
  have q := hG i H hi p
  by_cases hlt : i < n
  · refine .inr ⟨w.goes i H hlt q, Pv (i + 1), fun H' p' => ⟨n - (i + 1), by omega, rfl, hlt, p'⟩, fun x H' y => hs i x H H' hlt p (w.yields i H x H' hlt q y)⟩
  · have e : i = n := by omega
    subst e
    exact .inl ⟨w.stops H q, hd H p⟩
end
def spUnlike : Sp := fun vs H Q _ => ∃ (a : Addr) (gl : List Nat), vs = [.ref a] ∧ H a = some (.lst (vN gl)) ∧ gl.Nodup ∧ gl.length ≤ 256 ∧ ∀ H', Same H H' → Q (.bl true) H'
def spAreGoals : Sp := fun vs H Q _ => ∃ (n : Nat) (a : Addr) (gl : List Nat), vs = [.int n, .ref a] ∧ H a = some (.lst (vN gl)) ∧ n ≤ 8 ∧ Tab n gl ∧ ∀ H', Same H H' → Q (.bl true) H'
section
variable {P : Program} {w : World} {K : PySem.W.Frag} {mg : Str → Option Value} {base : Heap}
theorem scUnlike : FnScope ["values", "value"] ["values"] (defScope sUnlike) := ⟨rfl, rfl, rfl, by decide +kernel, rfl, by decide +kernel, by decide +kernel⟩
theorem ok_unlike (D : Df K mg "are_unlike" sUnlike) (B : Bt mg) : Cal P w K mg base 1 "are_unlike" spUnlike := by
  refine cal (ps := ["values"]) D (fun _ _ _ _ _ _ us hl => match us, hl with | [_], _ => rfl) scUnlike (fun vs H Q E h => ?_) (fun f cdv A outer s H vs Q E hr h => ?_)
  · obtain ⟨_, _, rfl, _⟩ := h; rfl
  · obtain ⟨a, gl, rfl, ha, hn, hl, k⟩ := h
    refine ⟨_, pss_one (ps_ret (pe_cmpR op_eq (pe_callB call_lenD (by rfl) B.len (by decide +kernel) (pa_cons (pe_dc (own := [("value", 1)]) (g := gName 1) (tt := tYes) (tk := tVar 1) (tv := tC (.bl true)) rfl scUnlike.nd (pi_list (pv 0))
        (blkOk_by (own := [("value", 1)]) (N := ["values", "value"]) (sc := defScope sUnlike) (by decide +kernel)) (fun _ _ _ _ _ => pg_name (i := 1) scUnlike.nd rfl (Or.inl rfl)) (fun _ _ _ _ _ => pts_nil)
        (fun _ _ _ _ _ => pv 1) (fun _ _ _ _ _ => pe_bl)) pa_nil)) (pe_callB call_len_seq (by rfl) B.len (by decide +kernel) (pa_cons (pv 0) pa_nil)) (nomark _))), ?_⟩
    refine ⟨_, rfl, a, rfl, ⟨_, .of ha⟩, fun D hD => ?_⟩
    refine dc_it (walk_list (xs := vN gl)) (fun i H' => Same H H' ∧ H' D = some (.dK (dk (gl.take i)))) ⟨sm_upd (Same.refl H) hD, upd_same⟩ (fun i H' _ q => .of (q.1 _ _ ha)) ?_ ?_
    · rintro i x H1 H1' hi ⟨s1, hd⟩ ⟨rfl, hx⟩
      obtain ⟨r, hr', rfl⟩ := vN_get hx
      have hrm : r ∉ gl.take i := fun z => by
        have hsp : gl = gl.take i ++ gl.drop i := (List.take_append_drop i gl).symm
        have hn' := hn
        rw [hsp, List.nodup_append] at hn'
        refine hn'.2.2 r z r ?_ rfl
        obtain ⟨hjl, ej⟩ := List.getElem?_eq_some_iff.mp hr'
        rw [List.drop_eq_getElem_cons hjl, ej]; exact List.mem_cons_self
      refine ⟨rfl, _, rfl, _, Sum.inl (r : Int), rfl, hd, small1000 (by rw [dk_len, List.length_take]; omega), sm_set s1 hD, ?_⟩
      rw [upd_same, dk_put hrm, List.take_succ, hr']; rfl
    · rintro H1 ⟨s1, hd⟩
      rw [vN_len, List.take_length] at hd
      refine ⟨D, _, rfl, hd, _, rfl, a, _, rfl, .inl (.of (s1 _ _ ha)), rfl, ?_⟩
      rw [dk_len, vN_len]
      have e : decide (V.int (gl.length : Int) = V.int (gl.length : Int)) = true := decide_eq_true rfl
      rw [e]
      exact k _ s1
end
end K6

/-! KE3 -/
set_option Elab.async false
set_option linter.all false
set_option maxRecDepth 100000
set_option maxHeartbeats 4000000
namespace K6
open PySem PySem.Spec L2 KL
theorem rep_all (n : Nat) : (List.replicate n true).all id = true := by
  induction n with
  | zero => rfl
  | succ n ih => rw [List.replicate_succ, List.all_cons, ih]; rfl
theorem rep_get {α : Type} {n i : Nat} {x : α} (h : i < n) : (List.replicate n x)[i]? = some x := by rw [List.getElem?_replicate, if_pos h]
def withT (K : PySem.W.Frag) : Nat := 0
section
variable {P : Program} {w : World} {K : PySem.W.Frag} {mg : Str → Option Value} {base : Heap}
theorem scAreGoals : FnScope ["lamps", "value", "goal", "row"] ["lamps", "value"] (defScope sAreGoals) := ⟨rfl, rfl, rfl, by decide +kernel, rfl, by decide +kernel, by decide +kernel⟩
theorem ok_are_goals (D : Df K mg "are_goals" sAreGoals) (B : Bt mg) (c1 : Cal P w K mg base 1 "is_list" (spIsList K)) (c2 : Cal P w K mg base 2 "is_within" (spIsWithin K)) (c3 : Cal P w K mg base 1 "are_unlike" spUnlike) (c4 : Cal P w K mg base 1 "weight_in" spWt) : Cal P w K mg base 3 "are_goals" spAreGoals := by
  refine cal (ps := ["lamps", "value"]) D (fun _ _ _ _ _ _ us hl => match us, hl with | [_, _], _ => rfl) scAreGoals (fun vs H Q E h => ?_) (fun f cdv A outer s H vs Q E hr h => ?_)
  · obtain ⟨_, _, _, rfl, _⟩ := h; rfl
  · obtain ⟨n, a, gl, rfl, ha, h8, T, k⟩ := h
    refine ⟨_, pss_cons (ps_if (pw_or (pt_not (pt_val (pc c1 hr (by decide) (by rfl) (pa_cons (pv 1) pa_nil)))) (pw_or1 (pt_cmpR op_ne (pe_callB call_len_seq (by rfl) B.len (by decide +kernel) (pa_cons (pv 1) pa_nil)) (pe_op op_shl pe_int (pv 0)) (nomark _)))).pt (pss_one (ps_ret pe_bl)) pss_nil)
      (pss_cons (ps_if (pt_not (pt_val (pe_callB (cr_all rfl) (by rfl) B.all (by decide +kernel) (pa_cons (pe_lc (own := [("goal", 2)]) (g := gName 2) (tt := tYes) rfl scAreGoals.nd (pi_list (pv 1))
          (blkOk_by (own := [("goal", 2)]) (N := ["lamps", "value", "goal", "row"]) (sc := defScope sAreGoals) (by decide +kernel)) (fun _ _ _ _ _ => pg_name (i := 2) scAreGoals.nd rfl (Or.inl rfl)) (fun _ _ _ _ _ => pts_nil)
          (fun _ _ _ _ _ => pc c2 hr (by decide) (by rfl) (pa_cons (pv 2) (pa_cons pe_int (pa_cons (pe_op op_sub (pe_callB (r := fun xs H Q => ∃ p ys, xs = [.ref p] ∧ (SqL K H p ys ∨ SqT K H p ys) ∧ Q (.int ys.length) H) call_len_seq (by rfl) B.len (by decide +kernel) (pa_cons (pv 1) pa_nil)) pe_int) pa_nil))))) pa_nil)))) (pss_one (ps_ret pe_bl)) pss_nil)
      (pss_one (ps_ret (pe_and (pc c3 hr (by decide) (by rfl) (pa_cons (pv 1) pa_nil)) (pe_one (pe_callB (cr_all rfl) (by rfl) B.all (by decide +kernel) (pa_cons (pe_lc (own := [("row", 3), ("goal", 2)]) (g := gTup K 2 (gCons (gName 3) (gCons (gName 2) gNil))) (tt := tYes) rfl scAreGoals.nd (pi_enum (by rfl) B.enumerate (pa_cons (pv 1) pa_nil))
          (blkOk_by (own := [("row", 3), ("goal", 2)]) (N := ["lamps", "value", "goal", "row"]) (sc := defScope sAreGoals) (by decide +kernel))
          (fun _ _ _ _ _ => pg_tup rfl (pgs_cons (pg_name (i := 3) scAreGoals.nd rfl (Or.inl rfl)) (pgs_cons (pg_name (i := 2) scAreGoals.nd rfl (Or.inl rfl)) pgs_nil))) (fun _ _ _ _ _ => pts_nil)
          (fun _ _ _ _ _ => pe_cmpR op_eq (pc c4 hr (by decide) (by rfl) (pa_cons (pv 3) pa_nil)) (pc c4 hr (by decide) (by rfl) (pa_cons (pv 2) pa_nil)) (nomark _))) pa_nil))))))), ?_⟩
    have hp := (pow8 h8).2
    have hl : gl.length = 2 ^ n := T.len
    refine ⟨_, rfl, a, _, rfl, .inl ha, fun H1 s1 => ?_⟩
    have h1 := s1 _ _ ha
    refine ⟨_, rfl, iteF ?_⟩
    refine ⟨_, rfl, a, _, rfl, .inl (.of h1), _, rfl, _, _, rfl, rfl, ⟨Int.natCast_nonneg _, by omega, by decide⟩, ?_⟩
    rw [vN_len, hl]
    refine ⟨rfl, _, rfl, ?_⟩
    have e0 : (!decide (V.int ((2 ^ n : Nat) : Int) = V.int (1 * 2 ^ ((n : Int)).toNat))) = false := by rw [shl1 h8]; simp
    refine iteF' e0 ?_
    refine ⟨_, rfl, a, rfl, ⟨_, .of h1⟩, fun D hD => ?_⟩
    have eB : ∀ N : Nat, (List.replicate N (V.bl true)) = (List.replicate N true).map V.bl := fun N => by rw [List.map_replicate]
    refine lc_map (walk_list (xs := vN gl)) (List.replicate (2 ^ n) (.bl true)) (by rw [List.length_replicate, vN_len, hl]) (by rw [vN_len]; omega) hD (fun H' s => .of (s _ _ h1)) ?_ ?_
    · rintro i x H2 H2' R hi s2 ⟨rfl, hx⟩ kR
      obtain ⟨r, hr', rfl⟩ := vN_get hx
      have hrl := T.lt (List.mem_iff_getElem?.mpr ⟨i, hr'⟩)
      have hi' : i < 2 ^ n := by rw [vN_len, hl] at hi; exact hi
      refine ⟨rfl, _, rfl, _, rfl, a, _, rfl, .inl (.of (s2 _ _ h1)), _, _, rfl, rfl, _, _, _, rfl, .inl ⟨r, rfl, ?_⟩⟩
      rw [vN_len, hl]
      have e : (decide ((0 : Int) ≤ (r : Int)) && decide ((r : Int) ≤ ((2 ^ n : Nat) : Int) - 1)) = true := by
        rw [decide_eq_true (by omega), decide_eq_true (by omega)]; rfl
      rw [e]
      exact kR _ _ (Same.refl _) (rep_get hi')
    · intro H2 s2 hd
      rw [eB] at hd
      refine ⟨D, _, rfl, .of hd, _, rfl, ?_⟩
      refine iteF' (by rw [rep_all]; rfl) ?_
      have s12 := Same.trans s1 s2
      have h2 := s2 _ _ h1
      refine ⟨_, rfl, a, gl, rfl, h2, T.nodup, by omega, fun H3 s3 => ?_⟩
      refine ⟨_, rfl, iteT ?_⟩
      have h3 := s3 _ _ h2
      refine ⟨_, rfl, a, _, rfl, .of h3, fun D2 hD2 => ?_⟩
      refine lc_map (walk_enum (xs := vN gl)) (List.replicate (2 ^ n) (.bl true)) (by rw [List.length_replicate, vN_len, hl]) (by rw [vN_len]; omega) hD2 (fun H' s => .of (s _ _ h3)) ?_ ?_
      · rintro i x H4 H4' R hi s4 ⟨T1, y, z, rfl, hT1, rfl, hy, hz⟩ kR
        obtain ⟨r, hr', rfl⟩ := vN_get hz
        have ey : V.int (i : Int) = y := Option.some.inj hy
        subst ey
        have hi' : i < 2 ^ n := by rw [vN_len, hl] at hi; exact hi
        have hrl := T.lt (List.mem_iff_getElem?.mpr ⟨i, hr'⟩)
        have er : fn gl i = r := by have := T.get hi'; rw [hr'] at this; exact (Option.some.inj this).symm
        have ew : wt i = wt r := by rw [← er]; exact (T.P.wt i hi').symm
        refine ⟨T1, _, rfl, .of upd_same, rfl, _, _, rfl, _, _, rfl, rfl, rfl, _, rfl, i, rfl, by omega, _, rfl, r, rfl, by omega, rfl, ?_⟩
        rw [ew, decide_eq_true rfl]
        exact kR _ _ (sm_upd (Same.refl _) hT1) (rep_get hi')
      · intro H4 s4 hd
        rw [eB] at hd
        refine ⟨D2, _, rfl, .of hd, ?_⟩
        rw [rep_all]
        exact k _ (Same.trans (Same.trans s12 s3) s4)
end
end K6

/-! KE4 -/
set_option Elab.async false
set_option linter.all false
set_option maxRecDepth 100000
set_option maxHeartbeats 4000000
namespace K6
open PySem PySem.Spec L2 KL
def cm : Stmt → Nat → Stmt
  | .ClassDef _ _ _ b _ _ _ _ _ _ _, i => b.getD i (.Pass ⟨0, 0, 0, 0⟩)
  | s, _ => s
abbrev sInit : Stmt := cm (top 26) 0
abbrev sTabEq : Stmt := cm (top 26) 1
abbrev sStill : Stmt := top 27
def spInit (CT : Addr) : Sp := fun vs H Q _ => ∃ (x dx g : Addr) (n : Nat) (gl : List Nat), vs = [.ref x, .int n, .ref g] ∧ H x = some (.ins CT dx []) ∧ H g = some (.lst (vN gl)) ∧ 1 ≤ n ∧ n ≤ 8 ∧ Tab n gl ∧
  ∀ H', (∀ b u, b ≠ x → H b = some u → H' b = some u) → TabAt CT H' x n gl → Q .non H'
def spTabEq (CT : Addr) : Sp := fun vs H Q _ => ∃ (p q : Addr) (n m : Nat) (gl hl : List Nat), vs = [.ref p, .ref q] ∧ TabAt CT H p n gl ∧ TabAt CT H q m hl ∧ Q (.bl (decide (n = m ∧ gl = hl))) H
/-- Table(..) may be made -/
structure CalM (P : Program) (w : World) (K : PySem.W.Frag) (mg : Str → Option Value) (base : Heap) (k : Nat) (CT : Addr) : Prop where
  ex : ∃ (f : Addr) (fd : FuncData), Mk K CT f ∧ FnOk P w K mg base (L2.CX P w) k f fd ["self", "lamps", "goals"] (spInit CT) ∧ Binds K fd ["self", "lamps", "goals"] []
  gC : mg "Table" = some (.ref CT)
theorem CalM.mono {P : Program} {w : World} {K : PySem.W.Frag} {mg : Str → Option Value} {base : Heap} {j k : Nat} {CT : Addr} (c : CalM P w K mg base j CT) (h : j ≤ k) : CalM P w K mg base k CT := by
  obtain ⟨f, fd, M, F, b⟩ := c.ex
  exact ⟨⟨f, fd, M, F.mono h, b⟩, c.gC⟩
/-- an own method as the top has left it -/
structure DfM (K : PySem.W.Frag) (C : Addr) (x qual : Str) (st : Stmt) : Prop where
  ex : ∃ (f : Addr) (fd : FuncData), Fun K x qual st f fd ∧ PySem.W.findIn K (.ref C) x = some (some (.ref f)) ∧ PySem.W.isFn K (.ref f) = true
section
variable {X : Cx} {k j : Nat} {CT : Addr} {p pos : Pos} {e : Expr} {es : List Expr} {t : TA}
/-- Table(e, ..) -/
theorem pcM (c : CalM X.prog X.w X.K X.mg X.base k CT) (hr : Room (j + 1) X.A) (hk : k ≤ j) (hg : Gl X "Table") (ha : PA X (e :: es) t)
    (he : starEach (e :: es) X.env = (false, eval e X.env) :: starEach es X.env := by rfl) (hpl : (backTo pos (starEach es X.env)).any (·.1) = false := by rfl) :
    PE X (.Call (.Name "Table" p) (e :: es) [] pos) (tMake CT (spInit CT) [] E0 t) := by
  obtain ⟨f, fd, M, F, b⟩ := c.ex
  exact pe_make M F (hr.mono (by omega)) hg c.gC b .nil passL ha (by decide) he hpl
end
/-- what Table(n, goals) asks -/
theorem tab_new {CT : Addr} {H : Hp} {n : Nat} {g : Addr} {gl : List Nat} {Q : VK} {E : XK} (hg : H g = some (.lst (vN gl))) (h1 : 1 ≤ n) (h8 : n ≤ 8) (T : Tab n gl) (k : ∀ H' p, Same H H' → H p = none → TabAt CT H' p n gl → Q (.ref p) H') :
    ∀ x dx, H x = none → H dx = none → dx ≠ x → spInit CT (.ref x :: ([.int (n : Int), .ref g] ++ [])) (upd (upd H dx (.own x)) x (.ins CT dx [])) (fun v H2 => v = .non ∧ Q (.ref x) H2) E := by
  intro x dx hx hdx hne
  have nx : ∀ {b : Addr} {u : HO}, H b = some u → b ≠ x ∧ b ≠ dx := fun e => ⟨ne_of_none e hx, ne_of_none e hdx⟩
  have up : ∀ {b : Addr} {u : HO}, H b = some u → (upd (upd H dx (.own x)) x (.ins CT dx [])) b = some u := fun e => by rw [upd_ne (nx e).1, upd_ne (nx e).2]; exact e
  refine ⟨x, dx, g, n, gl, rfl, upd_same, up hg, h1, h8, T, fun H' hk hT => ⟨rfl, k H' x (fun b u e => hk b u (nx e).1 (up e)) hx hT⟩⟩
section
variable {P : Program} {w : World} {K : PySem.W.Frag} {mg : Str → Option Value} {base : Heap} {CT CB fB : Addr}
theorem scInit : FnScope ["self", "lamps", "goals"] ["self", "lamps", "goals"] (defScope sInit) := ⟨rfl, rfl, rfl, by decide +kernel, rfl, by decide +kernel, by decide +kernel⟩
theorem ok_init (D : DfM K CT "__init__" "Table.__init__" sInit) (hmk : PySem.W.makesIn K CT = true) (hkp : PySem.W.keepIn K (.ref CT) = true) (B : Bt mg) (T : TabC K mg CT) (S : SupX.SupC P w K mg "BadTable" CB fB ["part"])
    (c1 : Cal P w K mg base 4 "need_lamps" spNeedLamps) (c2 : Cal P w K mg base 3 "are_goals" spAreGoals) : CalM P w K mg base 5 CT := by
  obtain ⟨f, fd, F, hfi, hfn⟩ := D.ex
  refine ⟨⟨f, fd, ⟨hmk, hfi, hfn, hkp⟩, ?_, F.binds (fun _ _ _ _ _ _ us hl => match us, hl with | [_, _, _], _ => rfl)⟩, T.gC⟩
  refine F.okX (N := ["self", "lamps", "goals"]) scInit (fun vs H Q E h => ?_) (fun cdv A outer s H vs Q E hr h => ?_)
  · obtain ⟨_, _, _, _, _, rfl, _⟩ := h; rfl
  · obtain ⟨x, dx, g, n, gl, rfl, hx, hg, h1, h8, Tb, k⟩ := h
    refine ⟨_, PSs.nox (pss_cons (ps_expr (pc c1 hr (by decide) (by rfl) (pa_cons (pv 1) pa_nil)))
      (pss_cons (ps_if (pt_not (pt_val (pc c2 hr (by decide) (by rfl) (pa_cons (pv 1) (pa_cons (pv 2) pa_nil))))) (pss_one (ps_raise rfl LamX.takes0 (pmk_sup S (by decide) hr (pa_cons pe_str pa_nil) (by rfl)))) pss_nil)
      (pss_cons (ps_fld (pv 0) (pv 1) rfl)
      (pss_one (ps_fld (pv 0) (pe_callTy cr_tupOf (by rfl) B.tuple (by decide +kernel) (pa_cons (pv 2) pa_nil)) rfl))))), ?_⟩
    refine ⟨_, rfl, n, rfl, h1, h8, _, rfl, _, rfl, n, g, gl, rfl, hg, h8, Tb, fun H1 s1 => ⟨_, rfl, iteF ?_⟩⟩
    have hx1 := s1 _ _ hx
    have hg1 := s1 _ _ hg
    refine ⟨_, rfl, _, rfl, x, CT, dx, _, rfl, hx1, T.cl, T.nL, (by show (0 : Nat) < 1000; decide), ?_⟩
    have ngx : g ≠ x := fun z => by rw [z, hx] at hg; cases hg
    have hg2 : (upd H1 x (.ins CT dx (putF "lamps" (.int (n : Int)) []))) g = some (.lst (vN gl)) := by rw [upd_ne ngx]; exact hg1
    refine ⟨_, rfl, g, _, rfl, .inl ⟨.of hg2, fun t ht => ?_⟩⟩
    have ntx : x ≠ t := fun z => by rw [← z, upd_same] at ht; cases ht
    refine ⟨_, rfl, x, CT, dx, putF "lamps" (.int (n : Int)) [], rfl, by rw [upd_ne ntx]; exact upd_same, T.cl, T.nG, (by show (1 : Nat) < 1000; decide), ?_⟩
    refine k _ (fun b u hb e => ?_) ⟨dx, t, _, upd_same, by rfl, by rfl, by rw [upd_ne ntx.symm]; exact upd_same⟩
    rw [upd_ne hb, upd_ne (fun z => ?_), upd_ne hb]
    · exact s1 _ _ e
    · rw [z] at e
      have : (upd H1 x (.ins CT dx (putF "lamps" (.int (n : Int)) []))) t = some u := by rw [upd_ne ntx.symm]; exact s1 _ _ e
      rw [ht] at this; cases this
theorem scStill : FnScope ["lamps"] ["lamps"] (defScope sStill) := ⟨rfl, rfl, rfl, by decide +kernel, rfl, by decide +kernel, by decide +kernel⟩
def spStill (CT : Addr) : Sp := fun vs H Q _ => ∃ n : Nat, vs = [.int n] ∧ 1 ≤ n ∧ n ≤ 8 ∧ ∀ H' p, Same H H' → H p = none → TabAt CT H' p n (List.range (2 ^ n)) → Q (.ref p) H'
theorem ok_still (D : Df K mg "still" sStill) (B : Bt mg) (c1 : Cal P w K mg base 4 "need_lamps" spNeedLamps) (c2 : CalM P w K mg base 5 CT) : Cal P w K mg base 7 "still" (spStill CT) := by
  refine cal (ps := ["lamps"]) D (fun _ _ _ _ _ _ us hl => match us, hl with | [_], _ => rfl) scStill (fun vs H Q E h => ?_) (fun f cdv A outer s H vs Q E hr h => ?_)
  · obtain ⟨_, rfl, _⟩ := h; rfl
  · obtain ⟨n, rfl, h1, h8, k⟩ := h
    refine ⟨_, pss_cons (ps_expr (pc c1 hr (by decide) (by rfl) (pa_cons (pv 0) pa_nil)))
      (pss_one (ps_ret (pcM c2 hr (by decide) (by rfl) (pa_cons (pv 0) (pa_cons (pe_listRg rfl (by rfl) B.list (prg_1 (by rfl) B.range (pe_op op_shl pe_int (pv 0)))) pa_nil))))), ?_⟩
    have hp := (pow8 h8).2
    refine ⟨_, rfl, n, rfl, h1, h8, _, rfl, _, rfl, _, _, rfl, rfl, ⟨Int.natCast_nonneg _, by omega, by decide⟩, _, congrArg V.int (shl1 h8), RgOk.of_le (by decide) (by have := in62 (N := 2 ^ n) (by omega); omega) (by decide) (Int.natCast_nonneg _), fun G hG => ?_⟩
    rw [rgV_vN]
    have s1 := sm_upd (Same.refl H) hG (o := .lst (vN (List.range (2 ^ n))))
    exact tab_new upd_same h1 h8 (Tab.range n) fun H' p s2 hp2 hT => k H' p (Same.trans s1 s2) (s1.free hp2) hT
theorem scTabEq : FnScope ["self", "other"] ["self", "other"] (defScope sTabEq) := ⟨rfl, rfl, rfl, by decide +kernel, rfl, by decide +kernel, by decide +kernel⟩
theorem ok_tab_eq (D : DfM K CT "__eq__" "Table.__eq__" sTabEq) (B : Bt mg) (T : TabC K mg CT) : ∃ (f : Addr) (fd : FuncData), FnOk P w K mg base (L2.CX P w) 1 f fd ["self", "other"] (spTabEq CT) ∧ PySem.W.findIn K (.ref CT) "__eq__" = some (some (.ref f)) ∧ PySem.W.isFn K (.ref f) = true ∧ Binds K fd ["self", "other"] [] := by
  obtain ⟨f, fd, F, hfi, hfn⟩ := D.ex
  refine ⟨f, fd, ?_, hfi, hfn, F.binds (fun _ _ _ _ _ _ us hl => match us, hl with | [_, _], _ => rfl)⟩
  refine F.okX (N := ["self", "other"]) scTabEq (fun vs H Q E h => ?_) (fun cdv A outer s H vs Q E hr h => ?_)
  · obtain ⟨_, _, _, _, _, _, rfl, _⟩ := h; rfl
  · obtain ⟨p, q, n, m, gl, hl, rfl, hp, hq, k⟩ := h
    refine ⟨_, PSs.nox (pss_cons (ps_if (pt_not (pt_val (pe_callB call_isi (by rfl) B.isinstance (by decide +kernel) (pa_cons (pv 1) (pa_cons (pe_glob (v := .ref CT) (by rfl) T.gC rfl) pa_nil))))) (pss_one (ps_ret pe_bl)) pss_nil)
      (pss_one (ps_ret (pe_callTy call_bool1 (by rfl) B.bool (by decide +kernel) (pa_cons (pe_and (pe_cmpR op_eq (pe_fld (pv 0) rfl) (pe_fld (pv 1) rfl) (nomark _)) (pe_one (pe_cmpR (op_eqD hr.units) (pe_fld (pv 0) rfl) (pe_fld (pv 1) rfl) (nomark _)))) pa_nil))))), ?_⟩
    obtain ⟨t, ty, kt⟩ := tyt_tab T hq
    obtain ⟨dx, t1, fs, p1, p2, p3, p4⟩ := hp
    obtain ⟨dy, t2, gs, q1, q2, q3, q4⟩ := hq
    refine ⟨_, rfl, .ref q, _, t, _, _, rfl, .own CT, ty, kt, _, rfl, iteF ?_⟩
    refine ⟨_, rfl, p, CT, dx, fs, _, rfl, p1, T.cl, T.nL, p2, _, rfl, q, CT, dy, gs, _, rfl, q1, T.cl, T.nL, q2, rfl, _, rfl, ?_⟩
    refine ite2 (fun e => ?_) (fun e => ?_)
    · have e' : n = m := by have := of_decide_eq_true e; injection this with this; omega
      refine ⟨_, rfl, p, CT, dx, fs, _, rfl, p1, T.cl, T.nG, p3, _, rfl, q, CT, dy, gs, _, rfl, q1, T.cl, T.nG, q3, vD gl, vD hl, dp_vN (.of p4), dp_vN (.of q4), vD_shaped _, vD_shaped _, ?_⟩
      refine .inr ⟨_, rfl, ?_⟩
      rw [eqv_vD]
      have : decide (n = m ∧ gl = hl) = decide (gl = hl) := by simp [e']
      rw [this] at k; exact k
    · have e' : ¬ n = m := fun z => e (decide_eq_true (by rw [z]))
      refine .inr ⟨_, rfl, ?_⟩
      have : decide (n = m ∧ gl = hl) = false := by simp [e']
      rw [this] at k; exact k
end
end K6

/-! KE5 -/
set_option Elab.async false
set_option linter.all false
set_option maxRecDepth 100000
set_option maxHeartbeats 4000000
/-! a != b by an own __eq__ -/
namespace PySem.W
open PySem PySem.Spec PySem.Calls PyProof.Rows
section
variable {prog : Program} {w : World} {A : Around} {E : Value → Shared → Prop} {s : Shared} {K : Frag} {x y C f : Addr} {ox oy : Obj} {od oe : Option Obj}
theorem k6_objNe {Q : PySem.Fin → Shared → Prop} (hu : A.units < cLine) (X : K.In s.heap) (I : InstAt s.heap x ox C od) (he : findIn K (.ref C) "__eq__" = some (some (.ref f))) (hf : isFn K (.ref f) = true)
    (h : wpAny (model prog w) A (call (.ref f) [.ref x, .ref y]) (fun v s' => ∃ b, v = .bool b ∧ Q (.done (.ret (.bool (!b)))) s') E s) :
    wpAny (model prog w) A (Builtin.«object.__ne__» ⟨[.ref x, .ref y], []⟩) Q E s := by
  obtain ⟨hp, g, d, t, os⟩ := s
  unfold Builtin.«object.__ne__»
  repeat (first
    | with_reducible refine wpAny_cRoomFor hu ?_
    | (refine wpAny_bind (m := callSpecialIfBound? (.ref x) (Str.ofString "__eq__") [.ref y])
        (ifBound_K X I he hf (wpAny_mono h (fun r s' hr => by
          obtain ⟨b, rfl, hq⟩ := hr
          repeat (first | exact hq | exact wpAny_pure hq | exact wpAny_truthy_bool hq | (refine wpAny_bind (m := truthy (.bool _)) (wpAny_truthy_bool ?_)) | wp_step)) fun _ _ e => e)))
    | wp_step)
theorem k6_tryNe {Q : Option Value → Shared → Prop} (hu : A.in1.units < cLine) (X : K.In s.heap) (I : InstAt s.heap x ox C od) (hne : findIn K (.ref C) "__ne__" = some (some (.builtin "object.__ne__"))) (hm : mroIn K C (.type "object") = some true)
    (he : findIn K (.ref C) "__eq__" = some (some (.ref f))) (hf : isFn K (.ref f) = true)
    (h : wpAny (model prog w) A.in1 (call (.ref f) [.ref x, .ref y]) (fun v s' => ∃ b, v = .bool b ∧ Q (some (.bool (!b))) s') E s) : wpAny (model prog w) A (tryCompare (.ref x) "__ne__" (.ref y)) Q E s := by
  have sub : Looks (model prog w) s.heap (isInstance (.ref x) (.type "object")) true := I.type.andThen (looks_mroIn X hm)
  have hcall : wpAny (model prog w) A (call (.builtin "object.__ne__") [.ref x, .ref y]) (fun v s' => ∃ b, v = .bool b ∧ Q (some (.bool b)) s') E s := by
    refine wpAny_call (codeAny_call_builtin PySem.F.slot_object_ne.plain PySem.F.entry_object_ne ?_)
    refine @check_slot (model prog w) _ _ s "object.__ne__" "object" "__ne__" (.ref x) [.ref y] [] _ PySem.F.cmpKind_ne PySem.F.cmpSplit_ne sub (PySem.F.cmpArgs_ne _ _) ?_
    refine k6_objNe (A := A.in1) hu X I he hf (wpAny_mono h (fun v s' hv => ?_) fun _ _ e => e)
    obtain ⟨b, rfl, hq⟩ := hv
    exact ⟨b, rfl, _, rfl, hq⟩
  unfold tryCompare
  refine wpAny_bind ?_
  simp only [callSpecialIfBound?, bindSpecialIfBound?]
  refine wpAny_holding (wpAny_bind (wpAny_bind (wpAny_bind (I.type.here ((looks_findIn X hne).here ?_)))))
  refine wpAny_bind (wpAny_askSetting (wpAny_ite ?_))
  have fin : wpAny (model prog w) A (call (.builtin "object.__ne__") ([.ref x] ++ [.ref y]) >>= fun v => pure (some v)) (fun r s' => wpAny (model prog w) A (match r with
      | some .notImplemented | none => pure none
      | some v => pure (some v)) Q E s') E s := wpAny_bind (wpAny_mono hcall (fun v s' h' => by
    obtain ⟨b, rfl, hq⟩ := h'
    exact wpAny_pure (wpAny_pure hq)) fun _ _ h' => h')
  have hbd : bindSpecial (.builtin "object.__ne__") (.ref x) = pure (.builtin "object.__ne__", [.ref x]) := PySem.F.slot_object_ne.bind _
  split
  · rw [hbd]; exact wpAny_bind (wpAny_pure (wpAny_pure (by exact fin)))
  · rw [hbd]; exact wpAny_tryCatch (wpAny_bind (wpAny_pure (wpAny_pure (by exact fin))))
theorem k6_richNe {Q : Value → Shared → Prop} (hu : A.units + 1 < cLine) (X : K.In s.heap) (I : InstAt s.heap x ox C od) (J : InstAt s.heap y oy C oe) (hne : findIn K (.ref C) "__ne__" = some (some (.builtin "object.__ne__"))) (hm : mroIn K C (.type "object") = some true)
    (he : findIn K (.ref C) "__eq__" = some (some (.ref f))) (hf : isFn K (.ref f) = true)
    (h : wpAny (model prog w) A.in1 (call (.ref f) [.ref x, .ref y]) (fun v s' => ∃ b, v = .bool b ∧ Q (.bool (!b)) s') E s) : wpAny (model prog w) A (richCompare .NotEq (.ref x) (.ref y)) Q E s := by
  have one : wpAny (model prog w) A (tryCompare (.ref x) (cmpInfo .NotEq).2.1 (.ref y)) (fun r s' => ∃ v, r = some v ∧ Q v s') E s :=
    k6_tryNe (by show A.units + 1 < cLine; exact hu) X I hne hm he hf (wpAny_mono h (fun v s' hv => by
      obtain ⟨b, rfl, hq⟩ := hv
      exact ⟨b, rfl, _, rfl, hq⟩) fun _ _ e => e)
  unfold richCompare
  simp only [oneThing_ref]
  refine wpAny_holding (wpAny_bind (wpAny_cRoomFor (by omega) ?_))
  refine wpAny_bind (I.type.here (wpAny_bind (J.type.here ?_)))
  split
  · rename_i q
    simp at q
  · refine wpAny_bind (wpAny_pure ?_)
    simp only [Bool.false_eq_true, if_false]
    refine wpAny_bind (wpAny_mono one (fun r s' z => ?_) fun _ _ e => e)
    obtain ⟨v, rfl, hq⟩ := z
    exact wpAny_pure hq
end
end PySem.W
namespace K6
open PySem PySem.Spec L2 KL
def rNeT (CT : Addr) : R2 := fun x y H Q => ∃ (p q : Addr) (n m : Nat) (gl hl : List Nat), x = .ref p ∧ y = .ref q ∧ TabAt CT H p n gl ∧ TabAt CT H q m hl ∧ Q (.bl (!decide (n = m ∧ gl = hl))) H
/-- Table != Table -/
theorem op_neT {X : Cx} {k : Nat} {CT f : Addr} {fd : FuncData} (hr : Room (k + 1) X.A) (hne : PySem.W.findIn X.K (.ref CT) "__ne__" = some (some (.builtin "object.__ne__"))) (T : TabC X.K X.mg CT)
    (F : FnOk X.prog X.w X.K X.mg X.base (L2.CX X.prog X.w) k f fd ["self", "other"] (spTabEq CT)) (he : PySem.W.findIn X.K (.ref CT) "__eq__" = some (some (.ref f))) (hf : PySem.W.isFn X.K (.ref f) = true) (hb : Binds X.K fd ["self", "other"] []) :
    OpR X (compareOp .NotEq) (rNeT CT) := by
  intro pins s σ H x y v u Q I rx ry h
  obtain ⟨p, q, n, m, gl, hl, rfl, rfl, hp, hq, k⟩ := h
  cases rx
  cases ry
  obtain ⟨dx, t1, fs, p1, p2, p3, p4⟩ := id hp
  obtain ⟨dy, t2, gs, q1, q2, q3, q4⟩ := id hq
  obtain ⟨mA, J, _⟩ := ins_get I.hok p1
  obtain ⟨mB, J', _⟩ := ins_get I.hok q1
  obtain ⟨od, J, _⟩ := J.look
  obtain ⟨od', J', _⟩ := J'.look
  show wpAny (model X.prog X.w) X.A (richCompare .NotEq (.ref p) (.ref q)) _ X.xe s
  refine PySem.W.k6_richNe (by have := hr.units; omega) I.kIn J J' hne T.hm he hf ?_
  have hsp : spTabEq CT [.ref p, .ref q] H (fun v H' => v = .bl (decide (n = m ∧ gl = hl)) ∧ Q (.bl (!decide (n = m ∧ gl = hl))) H') E0 := ⟨p, q, n, m, gl, hl, rfl, hp, hq, rfl, k⟩
  have hll := F.len _ _ _ _ hsp
  have r2 : Vals [V.ref p, V.ref q] [Value.ref p, Value.ref q] := .cons rfl (.cons rfl .nil)
  refine wpAny_call (codeAny_mono (F.run X.A.in1 X.stack s H ⟨[.ref p, .ref q], []⟩ [.ref p, .ref q] [.ref p, .ref q] _ E0 hr.in1 I.env0.in1 (by
    have := hb s [.ref p, .ref q] I.kIn (by simpa using hll)
    simpa using this) r2 hsp) fun r s' hq => ?_)
  cases r with
  | error e => exact passL (X := X) pins σ H s e s' I hq
  | ok fl =>
    cases fl with
    | ret w =>
      obtain ⟨z, H', I', rz, ez, ex⟩ := I.after hq
      subst ez
      cases rz
      exact ⟨_, rfl, V.bl _, H', I', rfl, ex⟩
    | next => exact False.elim hq
    | brk => exact False.elim hq
    | cont => exact False.elim hq
end K6

/-! KE6 -/
set_option Elab.async false
set_option linter.all false
set_option maxRecDepth 100000
set_option maxHeartbeats 4000000
namespace K6
open PySem PySem.Spec L2 KL
abbrev sParOf : Stmt := top 31
abbrev sNeedBits : Stmt := top 39
abbrev sHandsOf : Stmt := top 40
abbrev sHelpedIn : Stmt := top 49
abbrev sDueIn : Stmt := top 50
abbrev sAstray : Stmt := top 51
def spParOf (CT : Addr) : Sp := fun vs H Q _ => ∃ (p : Addr) (n : Nat) (gl : List Nat), vs = [.ref p] ∧ TabAt CT H p n gl ∧ 1 ≤ n ∧ n ≤ 8 ∧ Tab n gl ∧ NewT H (vN (pars n (fn gl))) Q
def spHandsOf (CT : Addr) : Sp := fun vs H Q _ => ∃ (p : Addr) (n : Nat) (gl : List Nat), vs = [.ref p] ∧ TabAt CT H p n gl ∧ 1 ≤ n ∧ n ≤ 8 ∧ Tab n gl ∧ ∀ H', Same H H' → Q (.int (hands (pars n (fn gl)) : Nat)) H'
def spNeedBits : Sp := fun vs H Q _ => ∃ (t : Addr) (p : List Nat) (part : V), vs = [.ref t, part] ∧ H t = some (.tup (vN p)) ∧ p.length ≤ 59 ∧ (∀ x ∈ p, x < 2) ∧ ∀ H', Same H H' → Q (.ref t) H'
/-- the goals that helped gives -/
def hgl (n : Nat) (gl : List Nat) (b : Nat) : List Nat := hg n gl (gws n (c0 (pars n (fn gl)) b)) b
def spHelpedIn (CT : Addr) : Sp := fun vs H Q _ => ∃ (p : Addr) (n : Nat) (gl : List Nat) (b : Nat), vs = [.ref p, .int b] ∧ TabAt CT H p n gl ∧ 1 ≤ n ∧ n ≤ 7 ∧ Tab n gl ∧ b < 2 ∧ ∀ H' q, Same H H' → H q = none → TabAt CT H' q (n + 1) (hgl n gl b) → Q (.ref q) H'
def spDueIn (CT : Addr) : Sp := fun vs H Q _ => ∃ (p : Addr) (n : Nat) (gl : List Nat) (r : Nat), vs = [.ref p, .int r] ∧ TabAt CT H p n gl ∧ n ≤ 7 ∧ gl.length = 2 ^ n ∧ r < 256 ∧ Q (.int ((fn gl (r % 2 ^ n) + r / 2 ^ n * 2 ^ n : Nat) : Int)) H
/-- the rows whose goals are not due -/
def astray (n : Nat) (gl : List Nat) (b : Nat) (G : List Nat) : List Nat := (List.range (2 ^ n)).filterMap fun i => if fn G (b * 2 ^ n + i) = fn gl i + b * 2 ^ n then none else some (b * 2 ^ n + i)
def spAstray (K : PySem.W.Frag) (CT : Addr) : Sp := fun vs H Q _ => ∃ (g p : Addr) (n : Nat) (gl G : List Nat) (b : Nat), vs = [.ref g, .ref p, .int b] ∧ SqT K H g (vN G) ∧ TabAt CT H p n gl ∧ n ≤ 7 ∧ gl.length = 2 ^ n ∧ G.length = 2 ^ (n + 1) ∧ b < 2 ∧ NewT H (vN (astray n gl b G)) Q
/-- a list or a tuple walked -/
def iLT (K : PySem.W.Frag) (te : TE) : TI := fun σ H R => iList K te σ H R ∨ iTup K te σ H R
theorem pi_lt {X : Cx} {tg l : Expr} {tl : TE} (hl : PE X l tl) : PI X tg l (iLT X.K tl) := ⟨fun pins s σ H R I h => by
  rcases h with h | h
  · exact (pi_list hl).run pins s σ H R I h
  · exact (pi_tup hl).run pins s σ H R I h⟩
section
variable {P : Program} {w : World} {K : PySem.W.Frag} {mg : Str → Option Value} {base : Heap} {CT CB CN CM fB fN fM : Addr}
theorem scParOf : FnScope ["table"] ["table"] (defScope sParOf) := ⟨rfl, rfl, rfl, by decide +kernel, rfl, by decide +kernel, by decide +kernel⟩
theorem ok_par_of (D : Df K mg "parities_of" sParOf) (T : TabC K mg CT) (c1 : CalT P w K mg base 1 CT CB) (c2 : Cal P w K mg base 2 "parities_in" (spParIn K)) : Cal P w K mg base 3 "parities_of" (spParOf CT) := by
  refine cal (ps := ["table"]) D (fun _ _ _ _ _ _ us hl => match us, hl with | [_], _ => rfl) scParOf (fun vs H Q E h => ?_) (fun f cdv A outer s H vs Q E hr h => ?_)
  · obtain ⟨_, _, _, rfl, _⟩ := h; rfl
  · obtain ⟨p, n, gl, rfl, hp, h1, h8, Tb, k⟩ := h
    refine ⟨_, pss_cons (ps_expr (pcT1 c1 LamX.takes0 hr (by decide) (by rfl) (pa_cons (pv 0) pa_nil)))
      (pss_one (ps_ret (pc c2 hr (by decide) (by rfl) (pa_cons (pe_fld (pv 0) rfl) (pa_cons (pe_fld (pv 0) rfl) pa_nil))))), ?_⟩
    have ht := tyt_tab (H := H) T hp
    obtain ⟨dx, t1, fs, p1, p2, p3, p4⟩ := hp
    exact ⟨_, rfl, _, _, rfl, .inl ⟨ht, _, rfl, p, CT, dx, fs, _, rfl, p1, T.cl, T.nL, p2, _, rfl, p, CT, dx, fs, _, rfl, p1, T.cl, T.nG, p3, n, t1, gl, rfl, .of p4, h1, h8, Tb, k⟩⟩
theorem scHandsOf : FnScope ["table"] ["table"] (defScope sHandsOf) := ⟨rfl, rfl, rfl, by decide +kernel, rfl, by decide +kernel, by decide +kernel⟩
theorem ok_hands_of (D : Df K mg "hands_of" sHandsOf) (T : TabC K mg CT) (c1 : CalT P w K mg base 1 CT CB) (c2 : Cal P w K mg base 3 "parities_of" (spParOf CT)) (c3 : Cal P w K mg base 3 "hands_in" (spHands K)) : Cal P w K mg base 4 "hands_of" (spHandsOf CT) := by
  refine cal (ps := ["table"]) D (fun _ _ _ _ _ _ us hl => match us, hl with | [_], _ => rfl) scHandsOf (fun vs H Q E h => ?_) (fun f cdv A outer s H vs Q E hr h => ?_)
  · obtain ⟨_, _, _, rfl, _⟩ := h; rfl
  · obtain ⟨p, n, gl, rfl, hp, h1, h8, Tb, k⟩ := h
    refine ⟨_, pss_cons (ps_expr (pcT2 c1 LamX.takes0 hr (by decide) (by rfl) (pa_cons (pv 0) (pa_cons pe_str pa_nil))))
      (pss_one (ps_ret (pc c3 hr (by decide) (by rfl) (pa_cons (pc c2 hr (by decide) (by rfl) (pa_cons (pv 0) pa_nil)) pa_nil)))), ?_⟩
    refine ⟨_, rfl, _, _, rfl, .inl ⟨tyt_tab (H := H) T hp, _, rfl, p, n, gl, rfl, hp, h1, h8, Tb, fun H1 q s1 hq h => ?_⟩⟩
    exact ⟨q, pars n (fn gl), rfl, .of h, by rw [pars_len]; omega, fun H2 s2 => k H2 (Same.trans s1 s2)⟩
theorem scNeedBits : FnScope ["value", "part", "bit"] ["value", "part"] (defScope sNeedBits) := ⟨rfl, rfl, rfl, by decide +kernel, rfl, by decide +kernel, by decide +kernel⟩
theorem ok_need_bits (D : Df K mg "need_bits" sNeedBits) (B : Bt mg) (S : SupX.SupC P w K mg "BadNumber" CN fN ["part"]) (m59 : ∃ t, mg "MOST_BITS" = some (.int 59 t)) (c1 : Cal P w K mg base 1 "is_list" (spIsList K)) (c2 : Cal P w K mg base 2 "is_within" (spIsWithin K)) : Cal P w K mg base 3 "need_bits" spNeedBits := by
  obtain ⟨t59, m59⟩ := m59
  refine cal (ps := ["value", "part"]) D (fun _ _ _ _ _ _ us hl => match us, hl with | [_, _], _ => rfl) scNeedBits (fun vs H Q E h => ?_) (fun f cdv A outer s H vs Q E hr h => ?_)
  · obtain ⟨_, _, _, rfl, _⟩ := h; rfl
  · obtain ⟨t, p, part, rfl, ht, hl, hb, k⟩ := h
    refine ⟨_, pss_cons (ps_if (pw_or (pt_not (pt_val (pc c1 hr (by decide) (by rfl) (pa_cons (pv 0) pa_nil)))) (pw_or (pt_cmpR op_gt (pe_callB call_len_seq (by rfl) B.len (by decide +kernel) (pa_cons (pv 0) pa_nil)) (pe_glob (v := .int 59) (by rfl) m59 ⟨_, rfl⟩) (nomark _))
        (pw_or1 (pt_not (pt_val (pe_callB (cr_all rfl) (by rfl) B.all (by decide +kernel) (pa_cons (pe_lc (own := [("bit", 2)]) (g := gName 2) (tt := tYes) rfl scNeedBits.nd (pi_tup (pv 0))
          (blkOk_by (own := [("bit", 2)]) (N := ["value", "part", "bit"]) (sc := defScope sNeedBits) (by decide +kernel)) (fun _ _ _ _ _ => pg_name (i := 2) scNeedBits.nd rfl (Or.inl rfl)) (fun _ _ _ _ _ => pts_nil)
          (fun _ _ _ _ _ => pc c2 hr (by decide) (by rfl) (pa_cons (pv 2) (pa_cons pe_int (pa_cons pe_int pa_nil))))) pa_nil))))))).pt
        (pss_one (ps_raise rfl LamX.takes0 (pmk_sup S (by decide) hr (pa_cons (pv 1) pa_nil) (by rfl)))) pss_nil)
      (pss_one (ps_ret (pe_callTy cr_tupOf (by rfl) B.tuple (by decide +kernel) (pa_cons (pv 0) pa_nil)))), ?_⟩
    refine ⟨_, rfl, t, _, rfl, .inr ht, fun H1 s1 => ⟨_, rfl, iteF ?_⟩⟩
    have h1 := s1 _ _ ht
    refine ⟨_, rfl, t, _, rfl, .inr (.of h1), _, _, rfl, rfl, _, rfl, iteF' (decide_eq_false (by rw [vN_len]; omega)) ?_⟩
    refine ⟨_, rfl, t, rfl, ⟨_, .of h1⟩, fun D hD => ?_⟩
    have eB : ∀ N : Nat, (List.replicate N (V.bl true)) = (List.replicate N true).map V.bl := fun N => by rw [List.map_replicate]
    refine lc_map (walk_tup (xs := vN p)) (List.replicate p.length (.bl true)) (by rw [List.length_replicate, vN_len]) (by rw [vN_len]; omega) hD (fun H' s => .of (s _ _ h1)) ?_ ?_
    · rintro i x H2 H2' R hi s2 ⟨rfl, hx⟩ kR
      obtain ⟨r, hr', rfl⟩ := vN_get hx
      have hrl := hb r (List.mem_iff_getElem?.mpr ⟨i, hr'⟩)
      rw [vN_len] at hi
      refine ⟨rfl, _, rfl, _, _, _, rfl, .inl ⟨r, rfl, ?_⟩⟩
      have e : (decide ((0 : Int) ≤ (r : Int)) && decide ((r : Int) ≤ 1)) = true := by
        rw [decide_eq_true (by omega), decide_eq_true (by omega)]; rfl
      rw [e]
      exact kR _ _ (Same.refl _) (rep_get hi)
    · intro H2 s2 hd
      rw [eB] at hd
      refine ⟨D, _, rfl, .of hd, _, rfl, iteF' (by rw [rep_all]; rfl) ?_⟩
      exact ⟨_, rfl, t, _, rfl, .inr ⟨.of (s2 _ _ h1), k _ (Same.trans s1 s2)⟩⟩
theorem scDueIn : FnScope ["table", "row", "many"] ["table", "row"] (defScope sDueIn) := ⟨rfl, rfl, rfl, by decide +kernel, rfl, by decide +kernel, by decide +kernel⟩
theorem ok_due (D : Df K mg "due_in" sDueIn) (B : Bt mg) (T : TabC K mg CT) : Cal P w K mg base 1 "due_in" (spDueIn CT) := by
  refine cal (ps := ["table", "row"]) D (fun _ _ _ _ _ _ us hl => match us, hl with | [_, _], _ => rfl) scDueIn (fun vs H Q E h => ?_) (fun f cdv A outer s H vs Q E hr h => ?_)
  · obtain ⟨_, _, _, _, rfl, _⟩ := h; rfl
  · obtain ⟨p, n, gl, r, rfl, hp, h7, hl, hrr, k⟩ := h
    refine ⟨_, pss_cons (ps_set (i := 2) scDueIn.nd rfl (Or.inl rfl) (pe_callB call_len_seq (by rfl) B.len (by decide +kernel) (pa_cons (pe_fld (pv 0) rfl) pa_nil)))
      (pss_one (ps_ret (pe_op op_add (pe_ix ix_tup (pe_fld (pv 0) rfl) (pe_op op_mod (pv 1) (pv 2)) (fun _ _ => rfl)) (pe_op op_mul (pe_op op_fdiv (pv 1) (pv 2)) (pv 2))))), ?_⟩
    obtain ⟨dx, t1, fs, p1, p2, p3, p4⟩ := hp
    have hq := pow8 (n := n) (by omega)
    refine ⟨_, rfl, p, CT, dx, fs, _, rfl, p1, T.cl, T.nG, p3, t1, _, rfl, .inr (.of p4), ?_⟩
    rw [vN_len, hl]
    have hg : gl[r % 2 ^ n]? = some (fn gl (r % 2 ^ n)) := fn_get (by rw [hl]; exact Nat.mod_lt _ (by omega))
    refine ⟨_, rfl, p, CT, dx, fs, _, rfl, p1, T.cl, T.nG, p3, _, rfl, _, rfl, _, _, rfl, rfl, (by show (0 : Int) < ((2 ^ n : Nat) : Int); omega), t1, _, ((r % 2 ^ n : Nat) : Int), _, rfl, ?_, .of p4, atI_nat (vN_at hg), _, rfl, _, rfl, _, _, rfl, rfl, ?_, _, rfl, _, _, rfl, rfl, ?_, _, _, rfl, rfl, ?_⟩
    · show V.int ((r : Int) % ((2 ^ n : Nat) : Int)) = _
      rw [← Int.natCast_emod]
    · exact ⟨by omega, by omega⟩
    · exact .inr ⟨by omega, by omega⟩
    · have e : ((fn gl (r % 2 ^ n) : Nat) : Int) + (r : Int) / ((2 ^ n : Nat) : Int) * ((2 ^ n : Nat) : Int) = ((fn gl (r % 2 ^ n) + r / 2 ^ n * 2 ^ n : Nat) : Int) := by
        rw [Int.natCast_add, Int.natCast_mul, Int.natCast_ediv]
      show Q (V.int (((fn gl (r % 2 ^ n) : Nat) : Int) + (r : Int) / ((2 ^ n : Nat) : Int) * ((2 ^ n : Nat) : Int))) H
      rw [e]; exact k
theorem scAstray : FnScope ["goals", "table", "burns", "many", "row"] ["goals", "table", "burns"] (defScope sAstray) := ⟨rfl, rfl, rfl, by decide +kernel, rfl, by decide +kernel, by decide +kernel⟩
theorem ok_astray (D : Df K mg "astray_in" sAstray) (B : Bt mg) (T : TabC K mg CT) (c1 : Cal P w K mg base 1 "due_in" (spDueIn CT)) : Cal P w K mg base 2 "astray_in" (spAstray K CT) := by
  refine cal (ps := ["goals", "table", "burns"]) D (fun _ _ _ _ _ _ us hl => match us, hl with | [_, _, _], _ => rfl) scAstray (fun vs H Q E h => ?_) (fun f cdv A outer s H vs Q E hr h => ?_)
  · obtain ⟨_, _, _, _, _, _, rfl, _⟩ := h; rfl
  · obtain ⟨g, p, n, gl, G, b, rfl, hg, hp, h7, hl, hG, hb, k⟩ := h
    refine ⟨_, pss_cons (ps_set (i := 3) scAstray.nd rfl (Or.inl rfl) (pe_callB call_len_seq (by rfl) B.len (by decide +kernel) (pa_cons (pe_fld (pv 1) rfl) pa_nil)))
      (pss_one (ps_ret (pe_callTy cr_tupOf (by rfl) B.tuple (by decide +kernel) (pa_cons (pe_lc (own := [("row", 4)]) (g := gName 4) rfl scAstray.nd (pi_range2 (by rfl) B.range (pa_cons (pe_op op_mul (pv 2) (pv 3)) (pa_cons (pe_op op_add (pe_op op_mul (pv 2) (pv 3)) (pv 3)) pa_nil)))
        (blkOk_by (own := [("row", 4)]) (N := ["goals", "table", "burns", "many", "row"]) (sc := defScope sAstray) (by decide +kernel)) (fun _ _ _ _ _ => pg_name (i := 4) scAstray.nd rfl (Or.inl rfl))
        (fun _ _ _ _ _ => pts_one (pt_cmpR op_ne (pe_ix (r := rIxT K) ix_tup (pv 0) (pv 4) (fun _ _ => rfl)) (pc c1 hr (by decide) (by rfl) (pa_cons (pv 1) (pa_cons (pv 4) pa_nil))) (nomark _)))
        (fun _ _ _ _ _ => pv 4)) pa_nil)))), ?_⟩
    have hq := pow8 (n := n) (by omega)
    have hq7 : 2 ^ n ≤ 128 := by have := Nat.pow_le_pow_right (n := 2) (by decide) h7; omega
    have e2n : 2 ^ (n + 1) = 2 ^ n + 2 ^ n := by rw [Nat.pow_succ]; omega
    have hp' := hp
    obtain ⟨dx, t1, fs, p1, p2, p3, p4⟩ := hp
    refine ⟨_, rfl, p, CT, dx, fs, _, rfl, p1, T.cl, T.nG, p3, t1, _, rfl, .inr (.of p4), ?_⟩
    rw [vN_len, hl]
    have hm : CMul (b : Int) ((2 ^ n : Nat) : Int) := .inl ⟨by omega, by omega⟩
    have hbm : (b : Int) * ((2 ^ n : Nat) : Int) = ((b * 2 ^ n : Nat) : Int) := by rw [Int.natCast_mul]
    have hb2 : b * 2 ^ n ≤ 2 ^ n := by
      have : b = 0 ∨ b = 1 := by omega
      rcases this with rfl | rfl <;> simp
    generalize hB : b * 2 ^ n = B0 at hbm hb2
    refine ⟨_, rfl, _, rfl, _, _, rfl, rfl, hm, _, rfl, _, rfl, _, _, rfl, rfl, hm, _, rfl, _, _, rfl, rfl, _, _, rfl, ⟨by rw [hbm]; omega, by rw [hbm]; omega, by rw [hbm]; omega, by rw [hbm]; omega⟩, fun D hD => ?_⟩
    rw [hbm, show ((B0 : Int) + ((2 ^ n : Nat) : Int) - (B0 : Int)).toNat = 2 ^ n by omega]
    refine lc_flt (walk_range (lo := (B0 : Int)) (n := 2 ^ n)) (fun i => if fn G (B0 + i) = fn gl i + B0 then none else some (.int ((B0 + i : Nat) : Int))) (by omega) hD (fun _ _ => trivial) ?_ ?_
    · rintro i x H1 H1' R R' hi s1 ⟨rfl, rfl⟩ kR kR'
      have hGi : G[B0 + i]? = some (fn G (B0 + i)) := fn_get (by rw [hG, e2n]; omega)
      have eB : (B0 : Int) + (i : Int) = ((B0 + i : Nat) : Int) := by omega
      have emod : (B0 + i) % 2 ^ n = i := by
        rw [← hB, Nat.mul_comm, Nat.mul_add_mod]; exact Nat.mod_eq_of_lt hi
      have ediv : (B0 + i) / 2 ^ n = b := by
        rw [← hB, Nat.mul_comm, Nat.mul_add_div (by omega), Nat.div_eq_of_lt hi]; rfl
      refine ⟨rfl, _, rfl, _, rfl, g, _, ((B0 + i : Nat) : Int), _, rfl, (congrArg V.int eB), sm_tup s1 hg, atI_nat (vN_at hGi), _, rfl, _, rfl, p, n, gl, B0 + i, ?_, hp'.mono s1, h7, hl, by omega, rfl, _, rfl, ?_⟩
      · exact congrArg (fun z => [V.ref p, V.int z]) eB
      · rw [emod, ediv, hB]
        refine ite2 (fun e => ?_) (fun e => ?_)
        · have hne : ¬ fn G (B0 + i) = fn gl i + B0 := fun z => by rw [z] at e; simp at e
          refine ⟨_, rfl, kR _ _ (Same.refl _) ?_⟩
          show (if _ then _ else _) = _
          rw [if_neg hne]; exact congrArg (fun z => some (V.int z)) eB.symm
        · have he : fn G (B0 + i) = fn gl i + B0 := Classical.byContradiction fun z => e (by
            have : decide (V.int (fn G (B0 + i) : Int) = V.int ((fn gl i + B0 : Nat) : Int)) = false := decide_eq_false fun y => z (by injection y with y; omega)
            rw [this]; rfl)
          refine kR' _ (Same.refl _) ?_
          show (if _ then _ else _) = _
          rw [if_pos he]
    · intro H1 s1 hd
      have eA : (List.range (2 ^ n)).filterMap (fun i => if fn G (B0 + i) = fn gl i + B0 then none else some (V.int ((B0 + i : Nat) : Int))) = vN (astray n gl b G) := by
        unfold astray vN
        rw [List.map_filterMap, hB]
        refine congrArg (fun F => (List.range (2 ^ n)).filterMap F) (funext fun i => ?_)
        split <;> rfl
      rw [eA] at hd
      refine ⟨D, _, rfl, .inl ⟨.of hd, fun q hq => ?_⟩⟩
      exact k _ q (sm_upd s1 hq) (s1.free hq) upd_same
end
end K6

/-! KE7 -/
set_option Elab.async false
set_option linter.all false
set_option maxRecDepth 100000
set_option maxHeartbeats 4000000
namespace K6
open PySem PySem.Spec L2 KL
abbrev sFreeCh : Stmt := top 52
abbrev sHelped : Stmt := top 53
abbrev sNeedFew : Stmt := top 55
abbrev sShows : Stmt := top 56
theorem tab_newE {CT : Addr} {H : Hp} {z : V} {n : Nat} {g : Addr} {gl : List Nat} {Q : VK} {E : XK} (e : z = .int (n : Int)) (hg : H g = some (.lst (vN gl))) (h1 : 1 ≤ n) (h8 : n ≤ 8) (T : Tab n gl) (k : ∀ H' p, Same H H' → H p = none → TabAt CT H' p n gl → Q (.ref p) H') :
    ∀ x dx, H x = none → H dx = none → dx ≠ x → spInit CT (.ref x :: ([z, .ref g] ++ [])) (upd (upd H dx (.own x)) x (.ins CT dx [])) (fun v H2 => v = .non ∧ Q (.ref x) H2) E := by
  subst e; exact tab_new hg h1 h8 T k
theorem pow7 {n : Nat} (h : n ≤ 7) : 2 ^ n ≤ 128 := by have := Nat.pow_le_pow_right (n := 2) (by decide) h; omega
section
variable {P : Program} {w : World} {K : PySem.W.Frag} {mg : Str → Option Value} {base : Heap} {CT CB CN CM fB fN fM : Addr}
theorem scHelpedIn : FnScope ["table", "burns", "free", "off", "lit", "goal"] ["table", "burns"] (defScope sHelpedIn) := ⟨rfl, rfl, rfl, by decide +kernel, rfl, by decide +kernel, by decide +kernel⟩
/-- behind the choice of off and lit -/
theorem ok_helped_in (D : Df K mg "helped_in" sHelpedIn) (B : Bt mg) (T : TabC K mg CT) (c1 : Cal P w K mg base 2 "parities_in" (spParIn K)) (c2 : Cal P w K mg base 4 "choices_in" (spChoices K)) (c3 : Cal P w K mg base 3 "goals_with" (spGoalsWith K)) (c4 : CalM P w K mg base 5 CT) : Cal P w K mg base 7 "helped_in" (spHelpedIn CT) := by
  refine cal (ps := ["table", "burns"]) D (fun _ _ _ _ _ _ us hl => match us, hl with | [_, _], _ => rfl) scHelpedIn (fun vs H Q E h => ?_) (fun f cdv A outer s H vs Q E hr h => ?_)
  · obtain ⟨_, _, _, _, rfl, _⟩ := h; rfl
  · obtain ⟨p, n, gl, b, rfl, hp, h1, h7, Tb, hb, k⟩ := h
    refine ⟨_, pss_cons (ps_set (i := 2) scHelpedIn.nd rfl (Or.inr rfl) (pc c3 hr (by decide) (by rfl) (pa_cons (pe_fld (pv 0) rfl) (pa_cons (pe_ix ix_tup (pc c2 hr (by decide) (by rfl) (pa_cons (pc c1 hr (by decide) (by rfl) (pa_cons (pe_fld (pv 0) rfl) (pa_cons (pe_fld (pv 0) rfl) pa_nil))) (pa_cons (pv 1) pa_nil))) pe_int (fun _ _ => rfl)) pa_nil))))
      (pss_cons (ps_asg (pe_ifExp (pt_cmpR op_eq (pv 1) pe_int (nomark _)) (pe_tup (pa_cons (pv 2) (pa_cons (pe_fld (pv 0) rfl) pa_nil))) (pe_tup (pa_cons (pe_fld (pv 0) rfl) (pa_cons (pv 2) pa_nil))))
        (pg_tup rfl (pgs_cons (pg_name (i := 3) scHelpedIn.nd rfl (Or.inl rfl)) (pgs_cons (pg_name (i := 4) scHelpedIn.nd rfl (Or.inl rfl)) pgs_nil))))
      (pss_one (ps_ret (pcM c4 hr (by decide) (by rfl) (pa_cons (pe_op op_add (pe_fld (pv 0) rfl) pe_int) (pa_cons (pe_lst (StX.pa_star (pv 3) (StX.pa_star (pe_lc (own := [("goal", 5)]) (g := gName 5) (tt := tYes) rfl scHelpedIn.nd (pi_lt (pv 4))
          (blkOk_by (own := [("goal", 5)]) (N := ["table", "burns", "free", "off", "lit", "goal"]) (sc := defScope sHelpedIn) (by decide +kernel)) (fun _ _ _ _ _ => pg_name (i := 5) scHelpedIn.nd rfl (Or.inl rfl)) (fun _ _ _ _ _ => pts_nil)
          (fun _ _ _ _ _ => pe_op op_add (pv 5) (pe_callB (r := fun xs H Q => ∃ p ys, xs = [.ref p] ∧ (SqL K H p ys ∨ SqT K H p ys) ∧ Q (.int ys.length) H) call_len_seq (by rfl) B.len (by decide +kernel) (pa_cons (pv 2) pa_nil)))) pa_nil))) pa_nil)))))), ?_⟩
    have hq7 := pow7 h7
    have hp' := hp
    obtain ⟨dx, t1, fs, p1, p2, p3, p4⟩ := hp
    refine ⟨_, rfl, p, CT, dx, fs, _, rfl, p1, T.cl, T.nL, p2, _, rfl, p, CT, dx, fs, _, rfl, p1, T.cl, T.nL, p2, _, rfl, p, CT, dx, fs, _, rfl, p1, T.cl, T.nG, p3, n, t1, gl, rfl, .of p4, h1, by omega, Tb, fun H1 q1 s1 hq1 hp1 => ?_⟩
    have hpl : (pars n (fn gl)).length = n - 1 := pars_len _ _
    have hpb := pars_bit n (fn gl)
    obtain ⟨⟨tl, hct⟩, hcl, hcb, _, _⟩ := c0_ok (p := pars n (fn gl)) (b := b) (by omega) hpb hb
    refine ⟨_, rfl, q1, pars n (fn gl), b, rfl, .of hp1, by omega, hpb, hb, fun H2 q2 xs s2 hq2 hx2 hT2 => ?_⟩
    obtain ⟨v0, xs', ex, a0, ea, ha⟩ : ∃ v0 xs', xs = v0 :: xs' ∧ ∃ a, v0 = .ref a ∧ H2 a = some (.tup (vN (c0 (pars n (fn gl)) b))) := by
      rw [hct] at hT2
      cases xs with
      | nil => exact hT2.elim
      | cons v xs' => exact ⟨v, xs', rfl, hT2.1⟩
    subst ex ea
    have s12 := Same.trans s1 s2
    refine ⟨q2, _, _, _, rfl, rfl, .of hx2, atI_nat (j := 0) (v := .ref a0) rfl, n, a0, _, rfl, .of ha, h1, by omega, by rw [hcl]; exact hpl, hcb, fun H3 F s3 hF hf => ?_⟩
    have s13 := Same.trans s12 s3
    have ehg : hgl n gl b = two n (if b = 1 then gws n (c0 (pars n (fn gl)) b) else gl) (if b = 1 then gl else gws n (c0 (pars n (fn gl)) b)) := rfl
    have TF : Tab n (gws n (c0 (pars n (fn gl)) b)) := gws_tab (by omega) hcb
    have TH : Tab (n + 1) (hgl n gl b) := hg_tab (by omega) Tb TF
    generalize gws n (c0 (pars n (fn gl)) b) = fr at hf ehg TF
    have hFl : fr.length = 2 ^ n := TF.len
    have hGl : gl.length = 2 ^ n := Tb.len
    refine ⟨_, rfl, rfl, _, rfl, if_pair (x := .ref F) (y := .ref t1) (fun Q q => ⟨_, rfl, q⟩) (fun Q q => ⟨_, rfl, p, CT, dx, fs, _, rfl, s13 _ _ p1, T.cl, T.nG, p3, q⟩) fun p5 hp5 => ⟨p5, _, rfl, .of upd_same, rfl, _, _, rfl, _, _, rfl, rfl, ?_⟩⟩
    have key : ∃ (oa la : Addr) (O L : List Nat), (if decide (V.int (b : Int) = V.int 1) = true then V.ref F else V.ref t1) = V.ref oa ∧ (if decide (V.int (b : Int) = V.int 1) = true then V.ref t1 else V.ref F) = V.ref la ∧ (SqT K H3 oa (vN O) ∨ SqL K H3 oa (vN O)) ∧ (SqT K H3 la (vN L) ∨ SqL K H3 la (vN L)) ∧ (H3 oa = some (.tup (vN O)) ∨ H3 oa = some (.lst (vN O))) ∧ (H3 la = some (.tup (vN L)) ∨ H3 la = some (.lst (vN L))) ∧ O.length = 2 ^ n ∧ L.length = 2 ^ n ∧ hgl n gl b = two n O L := by
      have g1 := s13 _ _ p4
      by_cases e : b = 1
      · subst e
        exact ⟨F, t1, fr, gl, rfl, rfl, .inr (.of hf), .inl (.of g1), .inr hf, .inl g1, hFl, hGl, ehg⟩
      · have e2 : ¬ (decide (V.int (b : Int) = V.int 1) = true) := fun z => e (by have := of_decide_eq_true z; injection this with this; omega)
        rw [if_neg e2, if_neg e2]
        rw [if_neg e, if_neg e] at ehg
        exact ⟨t1, F, gl, fr, rfl, rfl, .inl (.of g1), .inr (.of hf), .inl g1, .inr hf, hGl, hFl, ehg⟩
    obtain ⟨oa, la, O, L, e1, e2, hO, hL, hO', hL', lO, lL, em⟩ := key
    have s4 : Same H3 (upd H3 p5 (.tup [if decide (V.int (b : Int) = V.int 1) = true then V.ref F else V.ref t1, if decide (V.int (b : Int) = V.int 1) = true then V.ref t1 else V.ref F])) := sm_upd (Same.refl H3) hp5
    generalize (upd H3 p5 (.tup [if decide (V.int (b : Int) = V.int 1) = true then V.ref F else V.ref t1, if decide (V.int (b : Int) = V.int 1) = true then V.ref t1 else V.ref F])) = H4 at s4
    generalize (if decide (V.int (b : Int) = V.int 1) = true then V.ref F else V.ref t1) = x1 at e1 ⊢
    generalize (if decide (V.int (b : Int) = V.int 1) = true then V.ref t1 else V.ref F) = x2 at e2 ⊢
    subst e1 e2
    have s14 := Same.trans s13 s4
    have hf4 := s4 _ _ hf
    have sq : ∀ {H' : Hp} {a : Addr} {l : List Nat}, (H' a = some (.tup (vN l)) ∨ H' a = some (.lst (vN l))) → SqT K H' a (vN l) ∨ SqL K H' a (vN l) := fun h => h.elim (fun z => .inl (.of z)) (fun z => .inr (.of z))
    have mo : ∀ {H1 H2 : Hp} {a : Addr} {l : List Nat}, Same H1 H2 → (H1 a = some (.tup (vN l)) ∨ H1 a = some (.lst (vN l))) → (H2 a = some (.tup (vN l)) ∨ H2 a = some (.lst (vN l))) := fun s h => h.elim (fun z => .inl (s _ _ z)) (fun z => .inr (s _ _ z))
    refine ⟨_, rfl, p, CT, dx, fs, _, rfl, s14 _ _ p1, T.cl, T.nL, p2, _, _, rfl, rfl, ?_⟩
    refine ⟨_, rfl, oa, _, rfl, sq (mo s4 hO'), ?_⟩
    have hL4 := mo s4 hL'
    have upl : ∀ {i r : Nat}, L[i]? = some r → (up n L)[i]? = some (r + 2 ^ n) := fun h => by unfold up; rw [List.getElem?_map, h]; rfl
    have ull : (up n L).length = 2 ^ n := by unfold up; rw [List.length_map, lL]
    have hstep : ∀ (i : Nat) (x : V) (H5 H5' : Hp) (R : V → Hp → Prop), Same H4 H5 → H5' = H5 → (vN L)[i]? = some x → (∀ y H6, Same H5 H6 → (vN (up n L))[i]? = some y → R y H6) →
        gName 5 x (wipe [some (V.ref p), some (V.int (b : Int)), some (V.ref F), some (V.ref oa), some (V.ref la), none] [5]) H5' fun σ2 H2 => wipe σ2 [5] = wipe [some (V.ref p), some (V.int (b : Int)), some (V.ref F), some (V.ref oa), some (V.ref la), none] [5] ∧
          tOp (rI0 fun i j => .int (i + j)) (tVar 5) (tCB (fun xs H Q => ∃ p ys, xs = [.ref p] ∧ (SqL K H p ys ∨ SqT K H p ys) ∧ Q (.int ys.length) H) (tCons (tVar 2) tNil)) σ2 H2 R := by
      rintro i x H5 H5' R s5 rfl hx kR
      obtain ⟨r, hr', rfl⟩ := vN_get hx
      refine ⟨rfl, _, rfl, _, rfl, F, _, rfl, .inl (.of (s5 _ _ hf4)), _, _, rfl, rfl, kR _ _ (Same.refl _) ?_⟩
      rw [vN_at (upl hr'), vN_len, hFl]; rfl
    rcases hL4 with hL4 | hL4
    · refine .inr ⟨_, rfl, la, rfl, ⟨_, .of hL4⟩, fun D hD => ?_⟩
      refine lc_map (walk_tup (xs := vN L)) (vN (up n L)) (by rw [vN_len, vN_len, ull, lL]) (by rw [vN_len, lL]; omega) hD (fun H' s => .of (s _ _ hL4)) (fun i x H5 H5' R hi s5 y kR => hstep i x H5 H5' R s5 y.1 y.2 kR) ?_
      intro H5 s5 hd
      refine ⟨D, _, rfl, .inr (.of hd), ?_⟩
      have el : vN O ++ (vN (up n L) ++ []) = vN (hgl n gl b) := by rw [List.append_nil, em]; exact (vN_app O (up n L)).symm
      refine ⟨by rw [el, vN_len, TH.len]; exact Nat.le_trans (show 2 ^ (n + 1) ≤ 256 by rw [Nat.pow_succ]; omega) (by decide), fun G hG => ?_⟩
      have s15 := Same.trans s14 s5
      have s6 := sm_upd s15 hG (o := .lst (vN O ++ (vN (up n L) ++ [])))
      exact tab_newE (n := n + 1) (gl := hgl n gl b) (congrArg V.int (show (n : Int) + 1 = ((n + 1 : Nat) : Int) by omega)) (by rw [upd_same, el]) (by omega) (by omega) TH fun H' q s7 hq7 hT => k H' q (Same.trans s6 s7) (s6.free hq7) hT
    · refine .inl ⟨_, rfl, la, rfl, ⟨_, .of hL4⟩, fun D hD => ?_⟩
      refine lc_map (walk_list (xs := vN L)) (vN (up n L)) (by rw [vN_len, vN_len, ull, lL]) (by rw [vN_len, lL]; omega) hD (fun H' s => .of (s _ _ hL4)) (fun i x H5 H5' R hi s5 y kR => hstep i x H5 H5' R s5 y.1 y.2 kR) ?_
      intro H5 s5 hd
      refine ⟨D, _, rfl, .inr (.of hd), ?_⟩
      have el : vN O ++ (vN (up n L) ++ []) = vN (hgl n gl b) := by rw [List.append_nil, em]; exact (vN_app O (up n L)).symm
      refine ⟨by rw [el, vN_len, TH.len]; exact Nat.le_trans (show 2 ^ (n + 1) ≤ 256 by rw [Nat.pow_succ]; omega) (by decide), fun G hG => ?_⟩
      have s15 := Same.trans s14 s5
      have s6 := sm_upd s15 hG (o := .lst (vN O ++ (vN (up n L) ++ [])))
      exact tab_newE (n := n + 1) (gl := hgl n gl b) (congrArg V.int (show (n : Int) + 1 = ((n + 1 : Nat) : Int) by omega)) (by rw [upd_same, el]) (by omega) (by omega) TH fun H' q s7 hq7 hT => k H' q (Same.trans s6 s7) (s6.free hq7) hT
end
end K6

/-! KE8 -/
set_option Elab.async false
set_option linter.all false
set_option maxRecDepth 100000
set_option maxHeartbeats 4000000
namespace K6
open PySem PySem.Spec L2 KL
/-- a def that may be called by its keywords, too: all of them, from the last parameter to the first -/
structure CalR (P : Program) (w : World) (K : PySem.W.Frag) (mg : Str → Option Value) (base : Heap) (k : Nat) (x : Str) (ps : List Str) (sp : Sp) : Prop where
  toCal : Cal P w K mg base k x sp
  ex : ∃ (f : Addr) (fd : FuncData), FnOk P w K mg base (L2.CX P w) k f fd ps sp ∧ mg x = some (.ref f) ∧ PySem.W.keepIn K (.ref f) = true ∧ ∀ (s : Shared) (ws : List Value), ws.length = ps.length → BindsTo s fd ⟨[], ps.reverse.zip ws⟩ (ps.zip ws.reverse)
open PyProof.Rows in
theorem calXR {P : Program} {w : World} {K : PySem.W.Frag} {mg : Str → Option Value} {base : Heap} {x : Str} {st : Stmt} {N ps : List Str} {k : Nat} {sp : Sp} (D : Df K mg x st) (hb : BindsBy x st ps)
    (hb2 : ∀ (kV doc pm : Value) (an : Option Addr) (cdv ct : Value) (ws : List Value), ws.length = ps.length → bindArgs (PySem.W.fnOf x x (defArgs st) (defBody st) (defScope st) .none kV doc pm an cdv ct) ⟨[], ps.reverse.zip ws⟩ = pure (ps.zip ws.reverse))
    (S : FnScope N ps (defScope st)) (len : ∀ vs H Q E, sp vs H Q E → vs.length = ps.length)
    (hbody : ∀ (f : Addr) (cdv : Value) (A : Around) (outer : List Env) (s : Shared) (H : Hp) (vs : List V) (Q : VK) (E : XK), Room k (A.deeper (envOfC x (defScope st) s.heap.objs.size f cdv)) → sp vs H Q E →
      ∃ t, PSs (cxOf (L2.CX P w) P w K mg base N x (defScope st) f cdv A outer s H E) (defBody st) t ∧ t { nx := fun _ H' => Q .non H', rt := Q } (start N vs) H) : CalR P w K mg base (k + 1) x ps sp := by
  obtain ⟨f, fd, F, g⟩ := D.ex
  have ok := F.okX S len fun cdv A outer s H vs Q E hr hsp => hbody f cdv A outer s H vs Q E hr hsp
  refine ⟨⟨f, fd, ps, ok, g, F.kp, F.binds hb⟩, f, fd, ok, g, F.kp, fun s ws hl => ?_⟩
  obtain ⟨oc, od, kV, doc, pm, an, cdv, ct, osl, rfl, lk, hcd⟩ := F.ex
  exact BindsTo.of_eq (hb2 _ _ _ _ _ _ _ hl)
def spFreeCh (K : PySem.W.Frag) : Sp := fun vs H Q _ => ∃ (t : Addr) (p : List Nat) (b : Nat), vs = [.ref t, .int b] ∧ H t = some (.tup (vN p)) ∧ p.length < 7 ∧ (∀ x ∈ p, x < 2) ∧ b < 2 ∧
  ∀ (H' : Hp) (q : Addr) (xs : List V), Same H H' → H q = none → H' q = some (.tup xs) → TL H' xs (ch p b) → Q (.ref q) H'
/-- the three refusals that helped and need_few share -/
def Refuses (K : PySem.W.Frag) (CT CB CN CM : Addr) (x y : V) (H : Hp) (E : XK) : Prop :=
  (TyT K CT H x false ∧ Rs CB [("part", .str "table")] H E) ∨
  (TyT K CT H x true ∧ BadN K H y 0 1 ∧ Rs CN [("part", .str "burns")] H E) ∨
  (∃ (p : Addr) (gl : List Nat) (b : Nat), x = .ref p ∧ y = .int b ∧ TabAt CT H p 8 gl ∧ b < 2 ∧ Rs CM [("what", .str "lamps"), ("most", .int 7)] H E)
def spHelped (K : PySem.W.Frag) (CT CB CN CM : Addr) : Sp := fun vs H Q E => ∃ x y : V, vs = [x, y] ∧
  ((∃ (p : Addr) (n : Nat) (gl : List Nat) (b : Nat), x = .ref p ∧ y = .int b ∧ TabAt CT H p n gl ∧ 1 ≤ n ∧ n ≤ 7 ∧ Tab n gl ∧ b < 2 ∧ ∀ H' q, Same H H' → H q = none → TabAt CT H' q (n + 1) (hgl n gl b) → Q (.ref q) H') ∨
    Refuses K CT CB CN CM x y H E)
def spNeedFew (K : PySem.W.Frag) (CT CB CN CM : Addr) : Sp := fun vs H Q E => ∃ x y : V, vs = [x, y] ∧
  ((∃ (p : Addr) (n : Nat) (gl : List Nat) (b : Nat), x = .ref p ∧ y = .int b ∧ TabAt CT H p n gl ∧ n ≤ 7 ∧ b < 2 ∧ Q .non H) ∨ Refuses K CT CB CN CM x y H E)
def spShows (K : PySem.W.Frag) (CT CB CN CM : Addr) : Sp := fun vs H Q E => ∃ x y z : V, vs = [x, y, z] ∧
  ((∃ (p q : Addr) (n : Nat) (gl G : List Nat) (b : Nat), x = .ref p ∧ y = .int b ∧ z = .ref q ∧ TabAt CT H p n gl ∧ 1 ≤ n ∧ n ≤ 7 ∧ gl.length = 2 ^ n ∧ b < 2 ∧ TabAt CT H q (n + 1) G ∧ Tab (n + 1) G ∧ ∀ H', Same H H' → Q (.bl (decide (astray n gl b G = []) && decide (hands (pars (n + 1) (fn G)) = 1))) H') ∨ Refuses K CT CB CN CM x y H E)
section
variable {P : Program} {w : World} {K : PySem.W.Frag} {mg : Str → Option Value} {base : Heap} {CT CB CN CM fB fN fM : Addr}
theorem scFreeCh : FnScope ["parities", "burns", "kept"] ["parities", "burns"] (defScope sFreeCh) := ⟨rfl, rfl, rfl, by decide +kernel, rfl, by decide +kernel, by decide +kernel⟩
theorem ok_free_ch (D : Df K mg "free_choices" sFreeCh) (c1 : Cal P w K mg base 3 "need_bits" spNeedBits) (c2 : Cal P w K mg base 4 "need_burns" (spNeedBurns K CN)) (c3 : Cal P w K mg base 4 "choices_in" (spChoices K)) : Cal P w K mg base 5 "free_choices" (spFreeCh K) := by
  refine cal (ps := ["parities", "burns"]) D (fun _ _ _ _ _ _ us hl => match us, hl with | [_, _], _ => rfl) scFreeCh (fun vs H Q E h => ?_) (fun f cdv A outer s H vs Q E hr h => ?_)
  · obtain ⟨_, _, _, rfl, _⟩ := h; rfl
  · obtain ⟨t, p, b, rfl, ht, hl, hp, hb, k⟩ := h
    refine ⟨_, pss_cons (ps_set (i := 2) scFreeCh.nd rfl (Or.inl rfl) (pc c1 hr (by decide) (by rfl) (pa_cons (pv 0) (pa_cons pe_str pa_nil))))
      (pss_cons (ps_expr (pc c2 hr (by decide) (by rfl) (pa_cons (pv 1) pa_nil)))
      (pss_one (ps_ret (pc c3 hr (by decide) (by rfl) (pa_cons (pv 2) (pa_cons (pv 1) pa_nil)))))), ?_⟩
    refine ⟨_, rfl, t, p, _, rfl, ht, by omega, hp, fun H1 s1 => ?_⟩
    refine ⟨_, rfl, _, rfl, .inl ⟨b, rfl, by omega, by omega, ?_⟩⟩
    exact ⟨_, rfl, _, rfl, t, p, b, rfl, .of (s1 _ _ ht), hl, hp, hb, fun H' q xs s2 hq hx hT => k H' q xs (Same.trans s1 s2) (s1.free hq) hx hT⟩
theorem scNeedFew : FnScope ["table", "burns"] ["table", "burns"] (defScope sNeedFew) := ⟨rfl, rfl, rfl, by decide +kernel, rfl, by decide +kernel, by decide +kernel⟩
theorem ok_need_few (D : Df K mg "need_few" sNeedFew) (T : TabC K mg CT) (S : SupX.SupC P w K mg "TooMany" CM fM ["what", "most"]) (m7 : ∃ t, mg "MOST_HELPED" = some (.int 7 t)) (c1 : CalT P w K mg base 1 CT CB) (c2 : Cal P w K mg base 4 "need_burns" (spNeedBurns K CN)) : Cal P w K mg base 5 "need_few" (spNeedFew K CT CB CN CM) := by
  obtain ⟨t7, m7⟩ := m7
  refine calX (ps := ["table", "burns"]) D (fun _ _ _ _ _ _ us hl => match us, hl with | [_, _], _ => rfl) scNeedFew (fun vs H Q E h => ?_) (fun f cdv A outer s H vs Q E hr h => ?_)
  · obtain ⟨_, _, rfl, _⟩ := h; rfl
  · obtain ⟨x, y, rfl, h⟩ := h
    refine ⟨_, pss_cons (ps_expr (pcT1 (W := fun cls d _ H => E cls d H) c1 (takes_of rfl rfl rfl rfl) hr (by decide) (by rfl) (pa_cons (pv 0) pa_nil)))
      (pss_cons (ps_expr (pcx (W := fun cls d _ H => E cls d H) c2 (takes_of rfl rfl rfl rfl) hr (by decide) (by rfl) (pa_cons (pv 1) pa_nil)))
      (pss_one (ps_if (pt_cmpR op_gt (pe_fld (pv 0) rfl) (pe_glob (v := .int 7) (by rfl) m7 ⟨_, rfl⟩) (nomark _)) (pss_one (ps_raise rfl (takes_of rfl rfl rfl rfl) (pmk_sup S (by decide) hr (pa_cons pe_str (pa_cons (pe_glob (v := .int 7) (by rfl) m7 ⟨_, rfl⟩) pa_nil)) (by rfl)))) pss_nil))), ?_⟩
    rcases h with ⟨p, n, gl, b, rfl, rfl, hp, h7, hb, q⟩ | ⟨ty, r⟩ | ⟨ty, bad, r⟩ | ⟨p, gl, b, rfl, rfl, hp, hb, r⟩
    · have ty := tyt_tab T hp
      obtain ⟨dx, t1, fs, p1, p2, p3, p4⟩ := hp
      exact ⟨_, rfl, _, _, rfl, .inl ⟨ty, _, rfl, _, rfl, .inl ⟨b, rfl, by omega, by omega, _, rfl, p, CT, dx, fs, _, rfl, p1, T.cl, T.nL, p2, _, _, rfl, rfl, _, rfl, iteF' (decide_eq_false (by omega)) q⟩⟩⟩
    · exact ⟨_, rfl, _, _, rfl, .inr ⟨ty, r⟩⟩
    · exact ⟨_, rfl, _, _, rfl, .inl ⟨ty, _, rfl, _, rfl, .inr ⟨bad, r⟩⟩⟩
    · have ty := tyt_tab T hp
      obtain ⟨dx, t1, fs, p1, p2, p3, p4⟩ := hp
      exact ⟨_, rfl, _, _, rfl, .inl ⟨ty, _, rfl, _, rfl, .inl ⟨b, rfl, by omega, by omega, _, rfl, p, CT, dx, fs, _, rfl, p1, T.cl, T.nL, p2, _, _, rfl, rfl, _, rfl, iteT' (decide_eq_true (by omega)) ⟨rfl, rs_here r⟩⟩⟩⟩
theorem scHelped : FnScope ["table", "burns"] ["table", "burns"] (defScope sHelped) := ⟨rfl, rfl, rfl, by decide +kernel, rfl, by decide +kernel, by decide +kernel⟩
theorem ok_helped (D : Df K mg "helped" sHelped) (T : TabC K mg CT) (S : SupX.SupC P w K mg "TooMany" CM fM ["what", "most"]) (m7 : ∃ t, mg "MOST_HELPED" = some (.int 7 t)) (c1 : CalT P w K mg base 1 CT CB) (c2 : Cal P w K mg base 4 "need_burns" (spNeedBurns K CN)) (c3 : Cal P w K mg base 7 "helped_in" (spHelpedIn CT)) : CalR P w K mg base 8 "helped" ["table", "burns"] (spHelped K CT CB CN CM) := by
  obtain ⟨t7, m7⟩ := m7
  refine calXR (ps := ["table", "burns"]) D (fun _ _ _ _ _ _ us hl => match us, hl with | [_, _], _ => rfl) (fun _ _ _ _ _ _ us hl => match us, hl with | [_, _], _ => rfl) scHelped (fun vs H Q E h => ?_) (fun f cdv A outer s H vs Q E hr h => ?_)
  · obtain ⟨_, _, rfl, _⟩ := h; rfl
  · obtain ⟨x, y, rfl, h⟩ := h
    refine ⟨_, pss_cons (ps_expr (pcT1 (W := fun cls d _ H => E cls d H) c1 (takes_of rfl rfl rfl rfl) hr (by decide) (by rfl) (pa_cons (pv 0) pa_nil)))
      (pss_cons (ps_expr (pcx (W := fun cls d _ H => E cls d H) c2 (takes_of rfl rfl rfl rfl) hr (by decide) (by rfl) (pa_cons (pv 1) pa_nil)))
      (pss_cons (ps_if (pt_cmpR op_gt (pe_fld (pv 0) rfl) (pe_glob (v := .int 7) (by rfl) m7 ⟨_, rfl⟩) (nomark _)) (pss_one (ps_raise rfl (takes_of rfl rfl rfl rfl) (pmk_sup S (by decide) hr (pa_cons pe_str (pa_cons (pe_glob (v := .int 7) (by rfl) m7 ⟨_, rfl⟩) pa_nil)) (by rfl)))) pss_nil)
      (pss_one (ps_ret (pc c3 hr (by decide) (by rfl) (pa_cons (pv 0) (pa_cons (pv 1) pa_nil))))))), ?_⟩
    rcases h with ⟨p, n, gl, b, rfl, rfl, hp, h1, h7, Tb, hb, q⟩ | ⟨ty, r⟩ | ⟨ty, bad, r⟩ | ⟨p, gl, b, rfl, rfl, hp, hb, r⟩
    · have ty := tyt_tab T hp
      have hp' := hp
      obtain ⟨dx, t1, fs, p1, p2, p3, p4⟩ := hp
      exact ⟨_, rfl, _, _, rfl, .inl ⟨ty, _, rfl, _, rfl, .inl ⟨b, rfl, by omega, by omega, _, rfl, p, CT, dx, fs, _, rfl, p1, T.cl, T.nL, p2, _, _, rfl, rfl, _, rfl, iteF' (decide_eq_false (by omega)) ⟨_, rfl, _, rfl, p, n, gl, b, rfl, hp', h1, h7, Tb, hb, q⟩⟩⟩⟩
    · exact ⟨_, rfl, _, _, rfl, .inr ⟨ty, r⟩⟩
    · exact ⟨_, rfl, _, _, rfl, .inl ⟨ty, _, rfl, _, rfl, .inr ⟨bad, r⟩⟩⟩
    · have ty := tyt_tab T hp
      obtain ⟨dx, t1, fs, p1, p2, p3, p4⟩ := hp
      exact ⟨_, rfl, _, _, rfl, .inl ⟨ty, _, rfl, _, rfl, .inl ⟨b, rfl, by omega, by omega, _, rfl, p, CT, dx, fs, _, rfl, p1, T.cl, T.nL, p2, _, _, rfl, rfl, _, rfl, iteT' (decide_eq_true (by omega)) ⟨rfl, rs_here r⟩⟩⟩⟩
theorem scShows : FnScope ["table", "burns", "value"] ["table", "burns", "value"] (defScope sShows) := ⟨rfl, rfl, rfl, by decide +kernel, rfl, by decide +kernel, by decide +kernel⟩
theorem ok_shows (D : Df K mg "shows_helped" sShows) (B : Bt mg) (T : TabC K mg CT) (c1 : Cal P w K mg base 5 "need_few" (spNeedFew K CT CB CN CM)) (c2 : Cal P w K mg base 2 "astray_in" (spAstray K CT)) (c3 : Cal P w K mg base 4 "hands_of" (spHandsOf CT)) : CalR P w K mg base 6 "shows_helped" ["table", "burns", "value"] (spShows K CT CB CN CM) := by
  refine calXR (ps := ["table", "burns", "value"]) D (fun _ _ _ _ _ _ us hl => match us, hl with | [_, _, _], _ => rfl) (fun _ _ _ _ _ _ us hl => match us, hl with | [_, _, _], _ => rfl) scShows (fun vs H Q E h => ?_) (fun f cdv A outer s H vs Q E hr h => ?_)
  · obtain ⟨_, _, _, rfl, _⟩ := h; rfl
  · obtain ⟨x, y, z, rfl, h⟩ := h
    refine ⟨_, pss_cons (ps_expr (pcx (W := fun cls d _ H => E cls d H) c1 (takes_of rfl rfl rfl rfl) hr (by decide) (by rfl) (pa_cons (pv 0) (pa_cons (pv 1) pa_nil))))
      (pss_cons (ps_if (pw_or (pt_not (pt_val (pe_callB call_isi (by rfl) B.isinstance (by decide +kernel) (pa_cons (pv 2) (pa_cons (pe_glob (v := .ref CT) (by rfl) T.gC rfl) pa_nil))))) (pw_or1 (pt_cmpR op_ne (pe_fld (pv 2) rfl) (pe_op op_add (pe_fld (pv 0) rfl) pe_int) (nomark _)))).pt (pss_one (ps_ret pe_bl)) pss_nil)
      (pss_one (ps_ret (pe_and (pe_cmpR (op_eqD hr.units) (pc c2 hr (by decide) (by rfl) (pa_cons (pe_fld (pv 2) rfl) (pa_cons (pv 0) (pa_cons (pv 1) pa_nil)))) (pe_tup pa_nil) (nomark _))
        (pe_one (pe_cmpR op_eq (pc c3 hr (by decide) (by rfl) (pa_cons (pv 2) pa_nil)) pe_int (nomark _))))))), ?_⟩
    rcases h with ⟨p, q, n, gl, G, b, rfl, rfl, rfl, hp, h1, h7, hl, hb, hq, TG, k⟩ | h
    · refine ⟨_, rfl, _, rfl, _, _, rfl, .inl ⟨p, n, gl, b, rfl, rfl, hp, h7, hb, ?_⟩⟩
      obtain ⟨t, ty, kt⟩ := tyt_tab T hq
      have hp' := hp
      have hq' := hq
      obtain ⟨dx, t1, fs, p1, p2, p3, p4⟩ := hp
      obtain ⟨dy, t2, gs, q1, q2, q3, q4⟩ := hq
      refine ⟨_, rfl, .ref q, _, t, _, _, rfl, .own CT, ty, kt, _, rfl, iteF ?_⟩
      refine ⟨_, rfl, q, CT, dy, gs, _, rfl, q1, T.cl, T.nL, q2, _, rfl, p, CT, dx, fs, _, rfl, p1, T.cl, T.nL, p2, _, _, rfl, rfl, rfl, _, rfl, iteF' (by simp) ?_⟩
      refine ⟨_, rfl, q, CT, dy, gs, _, rfl, q1, T.cl, T.nG, q3, _, rfl, _, rfl, t2, p, n, gl, G, b, rfl, .of q4, hp', h7, hl, TG.len, hb, fun H1 r s1 hr1 h1' => ?_⟩
      refine ⟨by decide, fun e he => ?_⟩
      have s2 := sm_upd s1 he (o := .tup [])
      refine ⟨vD (astray n gl b G), vD [], dp_vN (.of (sm_upd (Same.refl H1) he _ _ h1')), dp_vN (.of upd_same), vD_shaped _, vD_shaped _, _, rfl, ?_⟩
      rw [eqv_vD]
      refine ite2 (fun e1 => ?_) (fun e1 => ?_)
      · refine ⟨_, rfl, q, n + 1, G, rfl, hq'.mono s2, by omega, by omega, TG, fun H3 s3 => ⟨rfl, ?_⟩⟩
        have := k H3 (Same.trans s2 s3)
        rw [e1, Bool.true_and] at this
        have e3 : decide (V.int ((hands (pars (n + 1) (fn G)) : Nat) : Int) = V.int 1) = decide (hands (pars (n + 1) (fn G)) = 1) := by
          by_cases e4 : hands (pars (n + 1) (fn G)) = 1
          · rw [e4]; rfl
          · rw [decide_eq_false e4]; exact decide_eq_false fun z => e4 (by injection z with z; omega)
        rw [e3]; exact this
      · have := k _ s2
        rw [Bool.eq_false_iff.mpr e1, Bool.false_and] at this
        exact this
    · exact ⟨_, rfl, _, rfl, _, _, rfl, .inr h⟩
end
end K6

/-! KF1 -/
set_option Elab.async false
set_option linter.all false
set_option maxRecDepth 100000
set_option maxHeartbeats 4000000
/-! The law's own defs: its chances. -/
namespace K6
open PySem PySem.Spec L2 KL
abbrev lHarb : Stmt := top 58
abbrev lBuoy : Stmt := top 59
abbrev lPick : Stmt := top 60
/-- all but the object at h stays -/
abbrev Bh (h : Addr) (H H' : Hp) : Prop := ∀ b u, b ≠ h → H b = some u → H' b = some u
theorem Bh.refl (h : Addr) (H : Hp) : Bh h H H := fun _ _ _ e => e
theorem Bh.trans {h : Addr} {H H1 H2 : Hp} (a : Bh h H H1) (b : Bh h H1 H2) : Bh h H H2 := fun c u n e => b c u n (a c u n e)
theorem Bh.of {h : Addr} {H H' : Hp} (s : Same H H') : Bh h H H' := fun b u _ e => s b u e
/-- the harbour at h: its cells, its turns (at most t so far), what is left -/
def Harb (H : Hp) (h c : Addr) (t : Nat) : Prop := ∃ (cs : List Int) (tn : Nat) (lf : Int), H h = some (.lst [.ref c, .int tn, .int lf]) ∧ H c = some (.lst (cs.map V.int)) ∧ cs.length ≤ 58 ∧ tn ≤ t
theorem Harb.mono {H : Hp} {h c : Addr} {t t' : Nat} (a : Harb H h c t) (l : t ≤ t') : Harb H h c t' := by
  obtain ⟨cs, tn, lf, h1, h2, h3, h4⟩ := a
  exact ⟨cs, tn, lf, h1, h2, h3, Nat.le_trans h4 l⟩
theorem Harb.same {H H' : Hp} {h c : Addr} {t : Nat} (a : Harb H h c t) (s : Same H H') : Harb H' h c t := by
  obtain ⟨cs, tn, lf, h1, h2, h3, h4⟩ := a
  exact ⟨cs, tn, lf, s _ _ h1, s _ _ h2, h3, h4⟩
theorem Harb.isH {H : Hp} {h c : Addr} {t : Nat} (a : Harb H h c t) : ∃ u, H h = some u := by
  obtain ⟨cs, tn, lf, h1, _⟩ := a
  exact ⟨_, h1⟩
theorem Harb.isC {H : Hp} {h c : Addr} {t : Nat} (a : Harb H h c t) : ∃ u, H c = some u := by
  obtain ⟨cs, tn, lf, h1, h2, _⟩ := a
  exact ⟨_, h2⟩
theorem Harb.upd {H : Hp} {h c p : Addr} {t : Nat} {o : HO} (a : Harb H h c t) (n1 : p ≠ h) (n2 : p ≠ c) : Harb (L2.upd H p o) h c t := by
  obtain ⟨cs, tn, lf, h1, h2, h3, h4⟩ := a
  exact ⟨cs, tn, lf, by rw [upd_ne n1.symm]; exact h1, by rw [upd_ne n2.symm]; exact h2, h3, h4⟩
/-- what was not there is neither of the two -/
theorem Harb.ne {H0 : Hp} {h c p : Addr} {t : Nat} (a : Harb H0 h c t) (n : H0 p = none) : p ≠ h ∧ p ≠ c := by
  obtain ⟨cs, tn, lf, h1, h2, _⟩ := a
  exact ⟨fun z => (by rw [z, h1] at n; cases n), fun z => (by rw [z, h2] at n; cases n)⟩
theorem Bh.free {h c p : Addr} {H H' : Hp} {t : Nat} (s : Bh h H H') (a : Harb H' h c t) (n : H' p = none) : H p = none := by
  cases e : H p with
  | none => rfl
  | some u =>
    by_cases hp : p = h
    · obtain ⟨u', e'⟩ := a.isH
      rw [← hp, n] at e'; cases e'
    · rw [s p u hp e] at n; cases n
def spHarb (K : PySem.W.Frag) : Sp := fun vs H Q _ => ∃ (a : Addr) (ns : List Int), vs = [.ref a] ∧ SqL K H a (ns.map V.int) ∧ ∀ H' h c, Same H H' → H h = none → Harb H' h c 0 → Q (.ref h) H'
def spBuoy : Sp := fun vs H Q _ => ∃ (h c : Addr) (m t : Nat), vs = [.ref h, .int m] ∧ 1 ≤ m ∧ m ≤ 1000 ∧ t ≤ 100000 ∧ Harb H h c t ∧ ∀ H' (r : Nat), Bh h H H' → Harb H' h c (t + 1) → r < m → Q (.int (r : Nat)) H'
def spPick : Sp := fun vs H Q _ => ∃ (h c a : Addr) (t : Nat) (xs : List V), vs = [.ref h, .ref a] ∧ H a = some (.lst xs) ∧ h ≠ a ∧ xs ≠ [] ∧ xs.length ≤ 1000 ∧ t ≤ 100000 ∧ Harb H h c t ∧ ∀ H' x, Bh h H H' → Harb H' h c (t + 1) → x ∈ xs → Q x H'
/-! ints as data -/
def iDs (l : List Int) : List PyData := l.map fun n : Int => .int n
theorem dpAll_i {K : PySem.W.Frag} {H : Hp} : ∀ l : List Int, DpAll K H (l.map V.int) (iDs l)
  | [] => .nil
  | x :: l => .cons (.int _) (dpAll_i l)
theorem iDs_lay : ∀ l : List Int, PyData.canLayAll0 (iDs l) = true
  | [] => by simp [iDs, PyData.canLayAll0]
  | x :: l => by
    have := iDs_lay l
    show (PyData.canLay0 (.int x) && PyData.canLayAll0 (iDs l)) = true
    rw [this]; simp [PyData.canLay0]
theorem iDs_depth : ∀ l : List Int, PyData.depthAll (iDs l) ≤ 1
  | [] => by simp [iDs, PyData.depthAll]
  | x :: l => by
    have := iDs_depth l
    have e : iDs (x :: l) = .int x :: iDs l := rfl
    rw [e]; simp only [PyData.depthAll, PyData.depth]; omega
theorem iDL_shaped (l : List Int) : SeqAt.shaped (.list (iDs l)) = true := by
  have h := iDs_depth l
  show ((PyData.list (iDs l)).canLay0 && decide ((PyData.list (iDs l)).depth ≤ 64)) = true
  rw [Bool.and_eq_true]
  exact ⟨by simp only [PyData.canLay0]; exact iDs_lay l, decide_eq_true (by simp only [PyData.depth]; omega)⟩
theorem eqv_nil : ∀ l : List Int, PyData.eqv (.list (iDs l)) (.list (iDs [])) = l.isEmpty
  | [] => rfl
  | x :: l => rfl
section
variable {P : Program} {w : World} {K : PySem.W.Frag} {mg : Str → Option Value} {base : Heap}
theorem scHarb : FnScope ["_law_script", "_law_cell"] ["_law_script"] (defScope lHarb) := ⟨rfl, rfl, rfl, by decide +kernel, rfl, by decide +kernel, by decide +kernel⟩
theorem ok_harb (D : Df K mg "_law_harbour" lHarb) (B : Bt mg) : Cal P w K mg base 1 "_law_harbour" (spHarb K) := by
  refine cal (ps := ["_law_script"]) D (fun _ _ _ _ _ _ us hl => match us, hl with | [_], _ => rfl) scHarb (fun vs H Q E h => ?_) (fun f cdv A outer s H vs Q E hr h => ?_)
  · obtain ⟨_, _, rfl, _⟩ := h; rfl
  · obtain ⟨a, ns, rfl, ha, k⟩ := h
    refine ⟨_, pss_one (ps_ret (pe_lst (pa_cons (pe_lc (own := [("_law_cell", 1)]) (g := gName 1) (tt := tYes) rfl scHarb.nd (pi_list (pe_slice sl_list (pv 0) po_none (po_some pe_int)))
        (blkOk_by (own := [("_law_cell", 1)]) (N := ["_law_script", "_law_cell"]) (sc := defScope lHarb) (by decide +kernel)) (fun _ _ _ _ _ => pg_name (i := 1) scHarb.nd rfl (Or.inl rfl)) (fun _ _ _ _ _ => pts_nil)
        (fun _ _ _ _ _ => pe_callTy call_int1 (by rfl) B.int (by decide +kernel) (pa_cons (pv 1) pa_nil))) (pa_cons pe_int (pa_cons pe_int pa_nil))))), ?_⟩
    refine ⟨_, rfl, _, rfl, a, _, rfl, ha, fun p1 hp1 => ?_⟩
    have e1 : cutV (ns.map V.int) none (some (58 : Int)) = (ns.take 58).map V.int := by rw [List.map_take]; exact cut_take _ 58
    rw [e1]
    have s1 := sm_upd (Same.refl H) hp1 (o := .lst ((ns.take 58).map V.int))
    have hp1' : (upd H p1 (.lst ((ns.take 58).map V.int))) p1 = some (.lst ((ns.take 58).map V.int)) := upd_same
    have hl : (ns.take 58).length ≤ 58 := by rw [List.length_take]; omega
    generalize (upd H p1 (.lst ((ns.take 58).map V.int))) = H1 at s1 hp1'
    generalize ns.take 58 = cs at hp1' hl
    refine ⟨p1, rfl, ⟨_, .of hp1'⟩, fun D hD => ?_⟩
    refine lc_map (walk_list (xs := cs.map V.int)) (cs.map V.int) rfl (by rw [List.length_map]; omega) hD (fun H' s => .of (s _ _ hp1')) ?_ ?_
    · rintro i x H2 H2' R hi s2 ⟨rfl, hx⟩ kR
      rw [List.getElem?_map] at hx
      cases e : cs[i]? with
      | none => rw [e] at hx; cases hx
      | some z =>
        rw [e] at hx
        cases hx
        exact ⟨rfl, _, rfl, .inl ⟨z, rfl, kR _ _ (Same.refl _) (by rw [List.getElem?_map, e]; rfl)⟩⟩
    · intro H2 s2 hd
      refine ⟨by show (3 : Nat) ≤ sizeLine; decide, fun h hh => ?_⟩
      have s3 := Same.trans s1 s2
      exact k _ h D (sm_upd s3 hh) (s3.free hh) ⟨cs, 0, 0, upd_same, sm_upd (Same.refl H2) hh _ _ hd, hl, Nat.le_refl _⟩
theorem scBuoy : FnScope ["_law_harbour_here", "_law_many", "_law_left", "_law_turn", "_law_cell", "_law_mixed"] ["_law_harbour_here", "_law_many"] (defScope lBuoy) := ⟨rfl, rfl, rfl, by decide +kernel, rfl, by decide +kernel, by decide +kernel⟩
/-- the cell is chosen -/
theorem b4 {K : PySem.W.Frag} {D : Ends} {H : Hp} {h c : Addr} {cs : List Int} {tn : Nat} {z0 : Int} {rs : List V} {v1 v2 v5 : Option V} {call : List V → Hp → VK → Prop} {rl : List V → Hp → VK → Prop} (h1 : H h = some (.lst (V.ref c :: rs))) (h2 : H c = some (.lst (cs.map V.int)))
    (hrl : ∀ (H : Hp) (Q : VK), H c = some (.lst (cs.map V.int)) → Q (.int cs.length) H → rl [.ref c] H Q) (hcall : ∀ (H : Hp) (Q : VK) (i : Int), Q (.int i) H → call [.int i] H Q)
    (k : ∀ (z : Int) (H' : Hp), Same H H' → D.nx [some (.ref h), v1, v2, some (.int (tn : Int)), some (.int z), v5] H') :
    tIfS (tTest (tOp (rNeD K) (tOp (rIxL K) (tVar 0) (tC (.int 0))) (tLst tNil))) (tAsg (tOp (rIxL K) (tOp (rIxL K) (tVar 0) (tC (.int 0))) (tOp (rI (fun _ j => 0 < j) fun i j => .int (i % j)) (tCB call (tCons (tVar 3) tNil)) (tCB rl (tCons (tOp (rIxL K) (tVar 0) (tC (.int 0))) tNil)))) (gName 4)) tNext D
      [some (.ref h), v1, v2, some (.int (tn : Int)), some (.int z0), v5] H := by
  refine ⟨_, rfl, h, _, _, _, rfl, rfl, .of h1, atI_nat (j := 0) (v := .ref c) rfl, by decide, fun e he => ?_⟩
  have s1 := sm_upd (Same.refl H) he (o := .lst [])
  have g1 := s1 _ _ h1
  have g2 := s1 _ _ h2
  refine ⟨.list (iDs cs), .list (iDs []), .lst (.of g2) (dpAll_i cs), .lst (.of upd_same) .nil, iDL_shaped _, iDL_shaped _, _, rfl, ?_⟩
  rw [eqv_nil]
  cases cs with
  | nil => exact iteF (k z0 _ s1)
  | cons x l =>
    refine iteT ?_
    refine ⟨_, rfl, h, _, _, V.ref c, rfl, rfl, .of g1, atI_nat (j := 0) (v := V.ref c) rfl, _, rfl, hcall _ _ _ ?_⟩
    refine ⟨_, rfl, h, _, _, V.ref c, rfl, rfl, .of g1, atI_nat (j := 0) (v := V.ref c) rfl, ?_⟩
    refine hrl _ _ g2 ?_
    have hm : tn % (x :: l).length < (x :: l).length := Nat.mod_lt _ (by simp)
    refine ⟨_, _, rfl, rfl, (by show (0 : Int) < ((x :: l).length : Int); rw [List.length_cons]; omega), c, _, ((tn % (x :: l).length : Nat) : Int), .int ((x :: l)[tn % (x :: l).length]), rfl, ?_, .of g2, atI_nat ?_, k _ _ s1⟩
    · show V.int ((tn : Int) % ((x :: l).length : Int)) = _
      rw [← Int.natCast_emod]
    · rw [List.getElem?_map, List.getElem?_eq_getElem hm]; rfl
theorem emod_lt {a : Int} {m : Nat} (h : 1 ≤ m) : ∃ r : Nat, a % (m : Int) = (r : Int) ∧ r < m := by
  have h1 := Int.emod_nonneg a (show (m : Int) ≠ 0 by omega)
  have h2 := Int.emod_lt_of_pos a (show (0 : Int) < (m : Int) by omega)
  exact ⟨(a % (m : Int)).toNat, by omega, by omega⟩
theorem pow_ok1 {z : Int} {tn : Nat} (h : tn ≤ 100000) : CPow (z % 2147483563 + 87151 * (tn : Int) + 9137) 5 := by
  have h1 := Int.emod_nonneg z (show (2147483563 : Int) ≠ 0 by decide)
  have h2 := Int.emod_lt_of_pos z (show (0 : Int) < 2147483563 by decide)
  exact ⟨by decide, by decide, by omega⟩
theorem pow_ok2 {y : Int} {tn : Nat} (h : tn ≤ 100000) (h1 : 0 ≤ y) (h2 : y < 2147483579) : CPow (y * (2 * (tn : Int) + 9137) + 112213 * (tn : Int) * (tn : Int) + 87151) 3 := by
  obtain ⟨m, rfl⟩ := Int.eq_ofNat_of_zero_le h1
  have e : ((m : Int) * (2 * (tn : Int) + 9137) + 112213 * (tn : Int) * (tn : Int) + 87151) = ((m * (2 * tn + 9137) + 112213 * tn * tn + 87151 : Nat) : Int) := by simp only [Int.natCast_add, Int.natCast_mul]; rfl
  have a1 : m * (2 * tn + 9137) ≤ 2147483579 * 209137 := Nat.mul_le_mul (by omega) (by omega)
  have a2 : 112213 * tn * tn ≤ 112213 * 100000 * 100000 := Nat.mul_le_mul (Nat.mul_le_mul (Nat.le_refl _) h) h
  exact ⟨by decide, by decide, by rw [e, Int.natAbs_natCast]; omega⟩
end
end K6

/-! KF2 -/
set_option Elab.async false
set_option linter.all false
set_option maxRecDepth 100000
set_option maxHeartbeats 4000000
namespace K6
open PySem PySem.Spec L2 KL
section
variable {P : Program} {w : World} {K : PySem.W.Frag} {mg : Str → Option Value} {base : Heap}
theorem ok_buoy (D : Df K mg "_law_buoy_by" lBuoy) (B : Bt mg) : Cal P w K mg base 1 "_law_buoy_by" spBuoy := by
  refine cal (ps := ["_law_harbour_here", "_law_many"]) D (fun _ _ _ _ _ _ us hl => match us, hl with | [_, _], _ => rfl) scBuoy (fun vs H Q E h => ?_) (fun f cdv A outer s H vs Q E hr h => ?_)
  · obtain ⟨_, _, _, _, rfl, _⟩ := h; rfl
  · obtain ⟨h, c, m, t, rfl, h1, h2, ht, hh, k⟩ := h
    refine ⟨_, pss_cons (ps_if (pt_cmpR op_gt (pe_ix ix_list (pv 0) pe_int (fun _ _ => rfl)) pe_int (nomark _))
        (pss_cons (ps_set (i := 2) scBuoy.nd rfl (Or.inl rfl) (pe_callTy call_int1 (by rfl) B.int (by decide +kernel) (pa_cons (pe_ix ix_list (pv 0) pe_int (fun _ _ => rfl)) pa_nil)))
        (pss_cons (ps_asg (pe_op op_fdiv (pv 2) (pv 1)) (pg_sub (pv 0) pe_int set_list))
        (pss_one (ps_ret (pe_op op_mod (pe_callTy call_int1 (by rfl) B.int (by decide +kernel) (pa_cons (pv 2) pa_nil)) (pv 1)))))) pss_nil)
      (pss_cons (ps_set (i := 3) scBuoy.nd rfl (Or.inl rfl) (pe_ix ix_list (pv 0) pe_int (fun _ _ => rfl)))
      (pss_cons (ps_asg (pe_op op_add (pv 3) pe_int) (pg_sub (pv 0) pe_int set_list))
      (pss_cons (ps_set (i := 4) scBuoy.nd rfl (Or.inl rfl) (pe_op op_add (pe_op op_mul pe_int (pv 3)) pe_int))
      (pss_cons (ps_if (pt_cmpR (op_neD hr.units) (pe_ix ix_list (pv 0) pe_int (fun _ _ => rfl)) (pe_lst pa_nil) (nomark _))
        (pss_one (ps_set (i := 4) scBuoy.nd rfl (Or.inl rfl) (pe_ix ix_list (pe_ix ix_list (pv 0) pe_int (fun _ _ => rfl)) (pe_op op_mod (pe_callTy call_int1 (by rfl) B.int (by decide +kernel) (pa_cons (pv 3) pa_nil)) (pe_callB call_len_seq (by rfl) B.len (by decide +kernel) (pa_cons (pe_ix ix_list (pv 0) pe_int (fun _ _ => rfl)) pa_nil))) (fun _ _ => rfl)))) pss_nil)
      (pss_cons (ps_if (pw_and (pt_cmpR op_lt (pv 3) (pe_callB call_len_seq (by rfl) B.len (by decide +kernel) (pa_cons (pe_ix ix_list (pv 0) pe_int (fun _ _ => rfl)) pa_nil)) (nomark _)) (pw_and1 (pt_cmpR op_ge (pe_callB call_abs (by rfl) B.abs (by decide +kernel) (pa_cons (pv 4) pa_nil)) (pe_op op_pow pe_int pe_int) (nomark _)))).pt
        (pss_cons (ps_set (i := 2) scBuoy.nd rfl (Or.inl rfl) (pe_op op_add (pe_op op_mul pe_int (pe_op op_sub (pe_callB call_abs (by rfl) B.abs (by decide +kernel) (pa_cons (pe_callTy call_int1 (by rfl) B.int (by decide +kernel) (pa_cons (pv 4) pa_nil)) pa_nil)) (pe_op op_pow pe_int pe_int))) (pe_callTy call_int1 (by rfl) B.int (by decide +kernel) (pa_cons (pe_cmpR op_lt (pv 4) pe_int (nomark _)) pa_nil))))
        (pss_cons (ps_asg (pe_op op_fdiv (pv 2) (pv 1)) (pg_sub (pv 0) pe_int set_list))
        (pss_one (ps_ret (pe_op op_mod (pe_callTy call_int1 (by rfl) B.int (by decide +kernel) (pa_cons (pv 2) pa_nil)) (pv 1)))))) pss_nil)
      (pss_cons (ps_set (i := 5) scBuoy.nd rfl (Or.inl rfl) (pe_op op_mod (pe_callTy call_int1 (by rfl) B.int (by decide +kernel) (pa_cons (pe_op op_pow (pe_op op_add (pe_op op_add (pe_op op_mod (pe_callTy call_int1 (by rfl) B.int (by decide +kernel) (pa_cons (pv 4) pa_nil)) pe_int) (pe_op op_mul pe_int (pv 3))) pe_int) pe_int) pa_nil)) pe_int))
      (pss_cons (ps_set (i := 5) scBuoy.nd rfl (Or.inl rfl) (pe_op op_mod (pe_callTy call_int1 (by rfl) B.int (by decide +kernel) (pa_cons (pe_op op_pow (pe_op op_add (pe_op op_add (pe_op op_mul (pv 5) (pe_op op_add (pe_op op_mul pe_int (pv 3)) pe_int)) (pe_op op_mul (pe_op op_mul pe_int (pv 3)) (pv 3))) pe_int) pe_int) pa_nil)) pe_int))
      (pss_one (ps_ret (pe_op op_mod (pe_callTy call_int1 (by rfl) B.int (by decide +kernel) (pa_cons (pe_op op_fdiv (pv 5) pe_int) pa_nil)) (pv 1))))))))))), ?_⟩
    obtain ⟨cs, tn, lf, g1, g2, g3, g4⟩ := hh
    have hcd : CDiv lf (m : Int) := ⟨by omega, by omega⟩
    have nch : c ≠ h := fun z => by
      rw [z, g1] at g2
      have g2' := Option.some.inj g2
      injection g2' with g2'
      cases cs with
      | nil => cases g2'
      | cons x l => injection g2' with e _; cases e
    -- the end of a turn that takes from what is left
    have fin : ∀ {H1 : Hp} {tn' : Nat} {lf1 lf2 : Int} (a : Int), Bh h H H1 → H1 h = some (.lst [.ref c, .int tn', .int lf1]) → tn' ≤ t + 1 → ∃ r : Nat, a % (m : Int) = (r : Int) ∧ Q (.int (r : Nat)) (upd H1 h (.lst [.ref c, .int tn', .int lf2])) := by
      intro H1 tn' lf1 lf2 a b1 e1 l1
      obtain ⟨r, er, hrm⟩ := emod_lt (a := a) h1
      refine ⟨r, er, k _ r (fun b u hb e => by rw [upd_ne hb]; exact b1 b u hb e) ⟨cs, tn', lf2, upd_same, by rw [upd_ne nch]; exact b1 c _ nch g2, g3, l1⟩ hrm⟩
    refine ⟨_, rfl, h, _, _, V.int lf, rfl, rfl, .of g1, atI_nat (j := 2) (v := V.int lf) rfl, _, _, rfl, rfl, _, rfl, ?_⟩
    refine ite2 (fun e => ?_) (fun e => ?_)
    · refine ⟨_, rfl, h, _, _, V.int lf, rfl, rfl, .of g1, atI_nat (j := 2) (v := V.int lf) rfl, .inl ⟨lf, rfl, ?_⟩⟩
      refine ⟨_, rfl, _, rfl, _, _, rfl, rfl, hcd, _, rfl, h, _, _, 2, rfl, rfl, g1, rfl, ?_⟩
      obtain ⟨r, er, q⟩ := fin (tn' := tn) (lf2 := lf / (m : Int)) lf (Bh.refl h H) g1 (by omega)
      refine ⟨_, rfl, .inl ⟨lf, rfl, _, rfl, _, _, rfl, rfl, (by show (0 : Int) < (m : Int); omega), ?_⟩⟩
      show Q (.int (lf % (m : Int))) _
      rw [er]
      exact q
    · refine ⟨_, rfl, h, _, _, V.int tn, rfl, rfl, .of g1, atI_nat (j := 1) (v := V.int tn) rfl, ?_⟩
      refine ⟨_, rfl, _, _, rfl, rfl, _, rfl, h, _, _, 1, rfl, rfl, g1, rfl, ?_⟩
      generalize hH1 : upd H h _ = H1
      have e1 : H1 h = some (.lst [.ref c, .int ((tn + 1 : Nat) : Int), .int lf]) := by
        rw [← hH1]
        refine upd_same.trans ?_
        show some (HO.lst [V.ref c, V.int ((tn : Int) + 1), V.int lf]) = _
        rw [show (tn : Int) + 1 = ((tn + 1 : Nat) : Int) by omega]
      have b1 : Bh h H H1 := fun b u hb e => by rw [← hH1, upd_ne hb]; exact e
      clear hH1
      have gc := b1 c _ nch g2
      refine ⟨_, rfl, _, _, rfl, rfl, .inl ⟨by decide, by decide⟩, _, _, rfl, rfl, ?_⟩
      refine b4 e1 gc (fun H Q hc q => ⟨c, _, rfl, .inl (.of hc), by rw [List.length_map]; exact q⟩) (fun H Q i q => .inl ⟨i, rfl, q⟩) fun z H2 s2 => ?_
      have b2 : Bh h H H2 := b1.trans (Bh.of s2)
      have e2 := s2 _ _ e1
      have gc2 := s2 _ _ gc
      have fin2 : ∀ (a : Int) (u : Option V), Q (.int (a % (m : Int))) H2 := fun a u => by
        obtain ⟨r, er, hrm⟩ := emod_lt (a := a) h1
        rw [er]
        exact k _ r b2 ⟨cs, tn + 1, lf, e2, gc2, g3, by omega⟩ hrm
      have hmm : (0 : Int) < (m : Int) := by omega
      have rest : ∀ (v2 : Option V), tSeq (tAsg (tOp (rI (fun _ j => 0 < j) fun i j => .int (i % j)) (tCB (fun xs H Q => (∃ i, xs = [.int i] ∧ Q (.int i) H) ∨ ∃ k, xs = [.bl k] ∧ Q (.int (if k then 1 else 0)) H) (tCons (tOp (rI CPow fun i j => .int (i ^ j.toNat)) (tOp (rI0 fun i j => .int (i + j)) (tOp (rI0 fun i j => .int (i + j)) (tOp (rI (fun _ j => 0 < j) fun i j => .int (i % j)) (tCB (fun xs H Q => (∃ i, xs = [.int i] ∧ Q (.int i) H) ∨ ∃ k, xs = [.bl k] ∧ Q (.int (if k then 1 else 0)) H) (tCons (tVar 4) tNil)) (tC (.int 2147483563))) (tOp (rI CMul fun i j => .int (i * j)) (tC (.int 87151)) (tVar 3))) (tC (.int 9137))) (tC (.int 5))) tNil)) (tC (.int 2147483579))) (gName 5))
          (tSeq (tAsg (tOp (rI (fun _ j => 0 < j) fun i j => .int (i % j)) (tCB (fun xs H Q => (∃ i, xs = [.int i] ∧ Q (.int i) H) ∨ ∃ k, xs = [.bl k] ∧ Q (.int (if k then 1 else 0)) H) (tCons (tOp (rI CPow fun i j => .int (i ^ j.toNat)) (tOp (rI0 fun i j => .int (i + j)) (tOp (rI0 fun i j => .int (i + j)) (tOp (rI CMul fun i j => .int (i * j)) (tVar 5) (tOp (rI0 fun i j => .int (i + j)) (tOp (rI CMul fun i j => .int (i * j)) (tC (.int 2)) (tVar 3)) (tC (.int 9137)))) (tOp (rI CMul fun i j => .int (i * j)) (tOp (rI CMul fun i j => .int (i * j)) (tC (.int 112213)) (tVar 3)) (tVar 3))) (tC (.int 87151))) (tC (.int 3))) tNil)) (tC (.int 2147483549))) (gName 5))
            (tRet (tOp (rI (fun _ j => 0 < j) fun i j => .int (i % j)) (tCB (fun xs H Q => (∃ i, xs = [.int i] ∧ Q (.int i) H) ∨ ∃ k, xs = [.bl k] ∧ Q (.int (if k then 1 else 0)) H) (tCons (tOp (rI CDiv fun i j => .int (i / j)) (tVar 5) (tC (.int 64))) tNil)) (tVar 1))))
          { nx := fun _ H' => Q .non H', rt := Q } [some (.ref h), some (.int (m : Int)), v2, some (.int (tn : Int)), some (.int z), none] H2 := by
        intro v2
        refine ⟨_, rfl, .inl ⟨z, rfl, ?_⟩⟩
        refine ⟨_, _, rfl, rfl, (by show (0 : Int) < 2147483563; decide), _, rfl, _, _, rfl, rfl, .inl ⟨by decide, by decide⟩, _, _, rfl, rfl, _, _, rfl, rfl, _, _, rfl, rfl, pow_ok1 (by omega), .inl ⟨_, rfl, ?_⟩⟩
        refine ⟨_, _, rfl, rfl, (by show (0 : Int) < 2147483579; decide), ?_⟩
        have y1 := Int.emod_nonneg ((z % 2147483563 + 87151 * (tn : Int) + 9137) ^ (5 : Int).toNat) (show (2147483579 : Int) ≠ 0 by decide)
        have y2 := Int.emod_lt_of_pos ((z % 2147483563 + 87151 * (tn : Int) + 9137) ^ (5 : Int).toNat) (show (0 : Int) < 2147483579 by decide)
        refine ⟨_, rfl, _, rfl, _, _, rfl, rfl, .inl ⟨by decide, by decide⟩, _, _, rfl, rfl, _, _, rfl, rfl, .inl ⟨by omega, by omega⟩, _, rfl, _, _, rfl, rfl, .inl ⟨by decide, by decide⟩, _, rfl, _, _, rfl, rfl, .inl ⟨by omega, by omega⟩, _, _, rfl, rfl, _, _, rfl, rfl, _, _, rfl, rfl, pow_ok2 (by omega) y1 y2, .inl ⟨_, rfl, ?_⟩⟩
        refine ⟨_, _, rfl, rfl, (by show (0 : Int) < 2147483549; decide), ?_⟩
        refine ⟨_, rfl, _, _, rfl, rfl, ⟨by decide, by decide⟩, .inl ⟨_, rfl, _, rfl, _, _, rfl, rfl, hmm, ?_⟩⟩
        exact fin2 _ none
      refine ⟨_, rfl, _, rfl, h, _, _, V.ref c, rfl, rfl, .of e2, atI_nat (j := 0) (v := V.ref c) rfl, c, _, rfl, .inl (.of gc2), _, _, rfl, rfl, _, rfl, ?_⟩
      refine ite2 (fun e5 => ?_) (fun e5 => ?_)
      · refine ⟨_, rfl, z, rfl, _, _, rfl, rfl, ⟨by decide, by decide, by decide⟩, _, _, rfl, rfl, _, rfl, ?_⟩
        refine ite2 (fun e6 => ?_) (fun e6 => ?_)
        · refine ⟨_, rfl, .inl ⟨z, rfl, z, rfl, ?_⟩⟩
          refine ⟨_, _, rfl, rfl, ⟨by decide, by decide, by decide⟩, _, _, rfl, rfl, _, _, rfl, rfl, .inl ⟨by decide, by decide⟩, _, rfl, _, _, rfl, rfl, .inr ⟨_, rfl, ?_⟩⟩
          refine ⟨_, _, rfl, rfl, ?_⟩
          refine ⟨_, rfl, _, rfl, _, _, rfl, rfl, ⟨by omega, by omega⟩, _, rfl, h, _, _, 2, rfl, rfl, e2, rfl, ?_⟩
          obtain ⟨r, er, q⟩ := fin (tn' := tn + 1) (lf2 := (2 * ((if z < 0 then -z else z) - 10 ^ (18 : Int).toNat) + (if decide (z < 0) = true then 1 else 0)) / (m : Int)) (2 * ((if z < 0 then -z else z) - 10 ^ (18 : Int).toNat) + (if decide (z < 0) = true then 1 else 0)) b2 e2 (by omega)
          refine ⟨_, rfl, .inl ⟨_, rfl, _, rfl, _, _, rfl, rfl, hmm, ?_⟩⟩
          show Q (.int ((2 * ((if z < 0 then -z else z) - 10 ^ (18 : Int).toNat) + (if decide (z < 0) = true then 1 else 0)) % (m : Int))) _
          rw [er]
          exact q
        · exact rest _
      · exact rest _
end
end K6

/-! KF3 -/
set_option Elab.async false
set_option linter.all false
set_option maxRecDepth 100000
set_option maxHeartbeats 4000000
namespace K6
open PySem PySem.Spec L2 KL
abbrev lWeight : Stmt := top 61
abbrev lClasses : Stmt := top 62
abbrev lGoals : Stmt := top 63
/-- at q: a list of new lists, the classes (of rows below N so far) -/
def ClsAt (H0 H : Hp) (q : Addr) (n N : Nat) : Prop := ∃ as : List Addr, H q = some (.lst (as.map V.ref)) ∧ as.length = n + 1 ∧ as.Nodup ∧ q ∉ as ∧ ∀ (k : Nat) (a : Addr), as[k]? = some a → H0 a = none ∧ H a = some (.lst (vN ((List.range N).filter fun r => decide (wt r = k))))
def spClasses : Sp := fun vs H Q _ => ∃ n : Nat, vs = [.int n] ∧ n ≤ 8 ∧ ∀ H' q, Same H H' → H q = none → ClsAt H H' q n (2 ^ n) → Q (.ref q) H'
section
variable {P : Program} {w : World} {K : PySem.W.Frag} {mg : Str → Option Value} {base : Heap}
theorem scPick : FnScope ["_law_harbour_here", "_law_some"] ["_law_harbour_here", "_law_some"] (defScope lPick) := ⟨rfl, rfl, rfl, by decide +kernel, rfl, by decide +kernel, by decide +kernel⟩
theorem ok_pick (D : Df K mg "_law_pick" lPick) (B : Bt mg) (c1 : Cal P w K mg base 1 "_law_buoy_by" spBuoy) : Cal P w K mg base 2 "_law_pick" spPick := by
  refine cal (ps := ["_law_harbour_here", "_law_some"]) D (fun _ _ _ _ _ _ us hl => match us, hl with | [_, _], _ => rfl) scPick (fun vs H Q E h => ?_) (fun f cdv A outer s H vs Q E hr h => ?_)
  · obtain ⟨_, _, _, _, _, rfl, _⟩ := h; rfl
  · obtain ⟨h, c, a, t, xs, rfl, ha, hne, hx0, hx, ht, hh, k⟩ := h
    refine ⟨_, pss_one (ps_ret (pe_ix ix_list (pv 1) (pc c1 hr (by decide) (by rfl) (pa_cons (pv 0) (pa_cons (pe_callB call_len_seq (by rfl) B.len (by decide +kernel) (pa_cons (pv 1) pa_nil)) pa_nil))) (fun _ _ => rfl))), ?_⟩
    have hl : 1 ≤ xs.length := by cases xs with
      | nil => exact absurd rfl hx0
      | cons _ _ => simp
    refine ⟨_, rfl, _, rfl, _, rfl, a, _, rfl, .inl (.of ha), h, c, xs.length, t, rfl, hl, hx, ht, hh, fun H1 r b1 hh1 hr1 => ?_⟩
    exact ⟨a, _, _, xs[r], rfl, rfl, .of (b1 _ _ (Ne.symm hne) ha), atI_nat (List.getElem?_eq_getElem hr1), k _ _ b1 hh1 (List.getElem_mem hr1)⟩
theorem scLWeight : FnScope ["_law_row", "_law_found"] ["_law_row"] (defScope lWeight) := ⟨rfl, rfl, rfl, by decide +kernel, rfl, by decide +kernel, by decide +kernel⟩
theorem ok_lweight (D : Df K mg "_law_weight" lWeight) (B : Bt mg) : Cal P w K mg base 1 "_law_weight" spWt := by
  refine cal (ps := ["_law_row"]) D (fun _ _ _ _ _ _ us hl => match us, hl with | [_], _ => rfl) scLWeight (fun vs H Q E h => ?_) (fun f cdv A outer s H vs Q E hr h => ?_)
  · obtain ⟨x, rfl, _⟩ := h; rfl
  · obtain ⟨r, rfl, hlt, k⟩ := h
    refine ⟨_, pss_cons (ps_set (i := 1) scLWeight.nd rfl (Or.inl rfl) pe_int)
      (pss_cons (ps_while PassesOwn.never (pt_cmpR op_gt (pv 0) pe_int (nomark _))
        (pss_one (ps_par (i := 1) (j := 0) (by rfl) scLWeight.nd rfl rfl (by decide) rfl rfl (pa_cons (pe_op op_add (pv 1) (pe_op op_mod (pe_callTy call_int1 (by rfl) B.int (by decide +kernel) (pa_cons (pv 0) pa_nil)) pe_int)) (pa_cons (pe_op op_fdiv (pv 0) pe_int) pa_nil)) (by rfl))))
      (pss_one (ps_ret (pv 1)))), ?_⟩
    refine while_by (fun σ H' => H' = H ∧ ∃ f q c : Nat, σ = [some (.int q), some (.int c)] ∧ q < 2 ^ f ∧ c + wtF f q = wt r) (fun σ _ => mu1 σ) ⟨rfl, 9, r, 0, rfl, hlt, Nat.zero_add _⟩ ?_ ?_
    · rintro σ H' ⟨rfl, f, q, c, rfl, hq, hw⟩
      refine ⟨_, rfl, _, _, rfl, rfl, _, rfl, ?_⟩
      refine ite2 (fun e => ?_) (fun e => ?_)
      · have h0 : 0 < q := by have := of_decide_eq_true e; omega
        refine ⟨_, rfl, _, rfl, .inl ⟨_, rfl, _, _, rfl, rfl, (by show (0 : Int) < 2; decide), _, _, rfl, rfl, _, rfl, _, _, rfl, rfl, ⟨by decide, by decide⟩, _, _, rfl, ?_⟩⟩
        cases f with
        | zero => simp at hq; omega
        | succ f =>
          refine ⟨⟨rfl, f, q / 2, c + q % 2, ?_, ?_, ?_⟩, ?_⟩
          · show [some (V.int ((q : Int) / 2)), some (V.int ((c : Int) + (q : Int) % 2))] = _
            rw [show ((q : Int) / 2) = ((q / 2 : Nat) : Int) by omega, show ((c : Int) + (q : Int) % 2) = ((c + q % 2 : Nat) : Int) by omega]
          · rw [Nat.pow_succ] at hq; omega
          · have : wtF (f + 1) q = q % 2 + wtF f (q / 2) := rfl
            omega
          · show ((q : Int) / 2).toNat < ((q : Int)).toNat
            omega
      · have h0 : q = 0 := by
          have : ¬ (0 < (q : Int)) := fun z => e (decide_eq_true z)
          omega
        subst h0
        rw [wtF_zero, Nat.add_zero] at hw
        rw [← hw] at k
        exact ⟨_, rfl, k⟩
    · rintro σ H' Q' Q'' hm ⟨v, e, z, y, e1, e2, c, e3, q⟩
      exact ⟨v, e, z, y, e1, e2, c, e3, hm _ _ q⟩
theorem scClasses : FnScope ["_law_lamps", "_law_found", "_law_weight_here", "_law_row"] ["_law_lamps"] (defScope lClasses) := ⟨rfl, rfl, rfl, by decide +kernel, rfl, by decide +kernel, by decide +kernel⟩
theorem ok_classes (D : Df K mg "_law_classes" lClasses) (B : Bt mg) (c1 : Cal P w K mg base 1 "_law_weight" spWt) : Cal P w K mg base 2 "_law_classes" spClasses := by
  refine cal (ps := ["_law_lamps"]) D (fun _ _ _ _ _ _ us hl => match us, hl with | [_], _ => rfl) scClasses (fun vs H Q E h => ?_) (fun f cdv A outer s H vs Q E hr h => ?_)
  · obtain ⟨_, rfl, _⟩ := h; rfl
  · obtain ⟨n, rfl, h8, k⟩ := h
    refine ⟨_, pss_cons (ps_setLc (i := 1) (own := [("_law_weight_here", 2)]) (g := gName 2) (tt := tYes) (te := tLst tNil) rfl scClasses.nd rfl rfl (sw_true rfl rfl rfl (by decide +kernel))
        (pi_range1 (by rfl) B.range (pa_cons (pe_op op_add (pv 0) pe_int) pa_nil))
        (blkOk_by (own := [("_law_weight_here", 2)]) (N := ["_law_lamps", "_law_found", "_law_weight_here", "_law_row"]) (sc := defScope lClasses) (by decide +kernel))
        (fun _ _ _ _ _ => pg_name (i := 2) scClasses.nd rfl (Or.inl rfl)) (fun _ _ _ _ _ => pts_nil) (fun _ _ _ _ _ => pe_lst pa_nil))
      (pss_cons (ps_for PassesOwn.never rfl (pi_range1 (by rfl) B.range (pa_cons (pe_op op_shl pe_int (pv 0)) pa_nil)) (pg_name (i := 3) scClasses.nd rfl (Or.inl rfl))
        (pss_one (ps_expr (pe_bm PySem.F.plainAttrs_list PySem.F.slot_list_append PySem.F.type_list_append mt_append (pe_ix ix_list (pv 1) (pc c1 hr (by decide) (by rfl) (pa_cons (pv 3) pa_nil)) (fun _ _ => rfl)) (pa_cons (pv 3) pa_nil)))))
      (pss_one (ps_ret (pv 1)))), ?_⟩
    have hp := (pow8 h8).2
    have h62 := in62 (N := n + 1) (by omega)
    have h62' := in62 (N := 2 ^ n) (by omega)
    refine ⟨_, rfl, _, _, rfl, rfl, _, congrArg (fun z => [V.int z]) (show (n : Int) + 1 = ((n + 1 : Nat) : Int) by omega), h62.1, h62.2, fun D hD => ?_⟩
    rw [Int.toNat_natCast]
    refine lc_it walk_range (fun i H' => Same H H' ∧ ∃ as : List Addr, H' D = some (.lst (as.map V.ref)) ∧ as.length = i ∧ as.Nodup ∧ D ∉ as ∧ ∀ (k : Nat) (a : Addr), as[k]? = some a → H a = none ∧ H' a = some (.lst []))
      ⟨sm_upd (Same.refl H) hD, [], upd_same, rfl, List.nodup_nil, by simp, fun k a e => by simp at e⟩ (fun _ _ _ _ => trivial) ?_ ?_
    · rintro i x H1 H1' hi ⟨s1, as, hd, hl, hn, hDn, hk⟩ ⟨rfl, rfl⟩
      refine ⟨rfl, by decide, fun a ha => ?_⟩
      have s2 := sm_upd (Same.refl H1') ha (o := .lst [])
      have haD : a ≠ D := fun z => by rw [z, hd] at ha; cases ha
      have han : a ∉ as := fun z => by
        obtain ⟨k, e⟩ := List.mem_iff_getElem?.mp z
        rw [(hk k a e).2] at ha; cases ha
      refine ⟨_, s2 _ _ hd, small1000 (by rw [List.length_map]; omega), sm_set (Same.trans s1 s2) hD, as ++ [a], by rw [upd_same, List.map_append]; rfl, by rw [List.length_append, hl]; rfl, ?_, ?_, ?_⟩
      · rw [List.nodup_append]
        exact ⟨hn, by simp, fun x hx y hy z => han ((show y = a by simpa using hy) ▸ z ▸ hx)⟩
      · intro z
        rcases List.mem_append.mp z with z | z
        · exact hDn z
        · exact haD (by simpa using z : D = a).symm
      · intro k b e
        by_cases hkl : k < as.length
        · rw [List.getElem?_append_left hkl] at e
          obtain ⟨e1, e2⟩ := hk k b e
          have hbD : b ≠ D := fun z => hDn (by rw [← z]; exact List.mem_iff_getElem?.mpr ⟨k, e⟩)
          exact ⟨e1, by rw [upd_ne hbD]; exact s2 _ _ e2⟩
        · rw [List.getElem?_append_right (by omega)] at e
          have hb : b = a := by
            have : k - as.length = 0 := by
              have := (List.getElem?_eq_some_iff.mp e).1
              simp at this; omega
            rw [this] at e
            exact (Option.some.inj e).symm
          subst hb
          exact ⟨s1.free ha, by rw [upd_ne haD]; exact upd_same⟩
    · rintro H1 ⟨s1, as, hd, hl, hn, hDn, hk⟩
      refine ⟨_, rfl, _, _, rfl, rfl, ⟨Int.natCast_nonneg _, by omega, by decide⟩, _, congrArg (fun z => [V.int z]) (shl1 h8), h62'.1, h62'.2, ?_⟩
      rw [Int.toNat_natCast]
      refine for_range (fun i σ H' => (∃ x, σ = [some (.int (n : Int)), some (.ref D), none, x]) ∧ Same H H' ∧ H' D = some (.lst (as.map V.ref)) ∧ ∀ (k : Nat) (a : Addr), as[k]? = some a → H' a = some (.lst (vN ((List.range i).filter fun r => decide (wt r = k)))))
        ⟨⟨_, rfl⟩, s1, hd, fun k a e => (hk k a e).2⟩ ?_ ?_
      · rintro i σ H2 hi ⟨⟨x, rfl⟩, s2, hd2, hk2⟩
        have hw : wt i < as.length := by have := wt_le n (by omega) i hi; omega
        have ei : (0 : Int) + (i : Int) = (i : Int) := Int.zero_add _
        have hat : (as.map V.ref)[wt i]? = some (.ref as[wt i]) := by rw [List.getElem?_map, List.getElem?_eq_getElem hw]; rfl
        have hat' : as[wt i]? = some as[wt i] := List.getElem?_eq_getElem hw
        generalize as[wt i] = a at hat hat'
        have ha := hk2 _ _ hat'
        refine ⟨_, rfl, _, rfl, i, by rw [ei]; rfl, by omega, D, _, _, .ref a, rfl, rfl, .of hd2, atI_nat hat, .inl ⟨rfl, _, .of ha⟩, _, rfl, a, _, _, rfl, rfl, ha, small1000 ?_, ?_⟩
        · rw [vN_len]
          have := List.length_filter_le (fun r => decide (wt r = wt i)) (List.range i)
          rw [List.length_range] at this; omega
        · have haD : D ≠ a := fun z => hDn (by rw [z]; exact List.mem_iff_getElem?.mpr ⟨_, hat'⟩)
          refine ⟨⟨_, rfl⟩, sm_set s2 (hk _ _ hat').1, by rw [upd_ne haD]; exact hd2, fun k b e => ?_⟩
          by_cases hkw : k = wt i
          · subst hkw
            rw [hat'] at e
            cases e
            rw [upd_same, List.range_succ, List.filter_append, List.filter_cons, ei]
            simp
          · have hba : b ≠ a := fun z => hkw (by rw [z] at e; exact KL.nodup_ix hn e hat')
            rw [upd_ne hba, hk2 k b e, List.range_succ, List.filter_append, List.filter_cons]
            have : ¬ (wt i = k) := fun z => hkw z.symm
            simp [this]
      · rintro σ H2 ⟨⟨x, rfl⟩, s2, hd2, hk2⟩
        exact ⟨_, rfl, k _ D s2 hD ⟨as, hd2, hl, hn, hDn, fun k a e => ⟨(hk k a e).1, hk2 k a e⟩⟩⟩
end
end K6

/-! KF4 -/
set_option Elab.async false
set_option linter.all false
set_option maxRecDepth 100000
set_option maxHeartbeats 4000000
namespace K6
open PySem PySem.Spec L2 KL
def spLGoals : Sp := fun vs H Q _ => ∃ (h c : Addr) (n t : Nat), vs = [.ref h, .int n] ∧ 1 ≤ n ∧ n ≤ 7 ∧ t ≤ 90000 ∧ Harb H h c t ∧ ∀ (H' : Hp) (g : Addr) (gl : List Nat), Bh h H H' → H g = none → H' g = some (.lst (vN gl)) → Tab n gl → Harb H' h c (t + 2000) → Q (.ref g) H'
theorem Bh.set {h p : Addr} {H H' : Hp} {o : HO} (b : Bh h H H') (n : H p = none) : Bh h H (upd H' p o) := fun c u hc e => by rw [upd_ne (ne_of_none e n)]; exact b c u hc e
theorem Bh.put {h : Addr} {H H' : Hp} {o : HO} (b : Bh h H H') : Bh h H (upd H' h o) := fun c u hc e => by rw [upd_ne hc]; exact b c u hc e
theorem seqIx {r len : Nat} (h : r < len) : seqIndex? (r : Int) len = some r := by
  unfold seqIndex?
  simp only [show ¬ ((r : Int) < 0) by omega, if_false]
  have : (decide (0 ≤ (r : Int)) && decide ((r : Int) < (len : Int))) = true := by rw [decide_eq_true (by omega), decide_eq_true (by omega)]; rfl
  rw [if_pos this]; rfl
theorem vN_erase : ∀ (l : List Nat) (k : Nat), (vN l).eraseIdx k = vN (l.eraseIdx k)
  | [], _ => rfl
  | x :: l, 0 => rfl
  | x :: l, k + 1 => by
    show V.int (x : Int) :: (vN l).eraseIdx k = V.int (x : Int) :: vN (l.eraseIdx k)
    rw [vN_erase l k]
section
variable {P : Program} {w : World} {K : PySem.W.Frag} {mg : Str → Option Value} {base : Heap}
theorem scLGoals : FnScope ["_law_harbour_here", "_law_lamps", "_law_goals_here", "_law_rows", "_law_way", "_law_left", "_law_one", "_law_other", "_law_row"] ["_law_harbour_here", "_law_lamps"] (defScope lGoals) := ⟨rfl, rfl, rfl, by decide +kernel, rfl, by decide +kernel, by decide +kernel⟩
theorem ok_lgoals (D : Df K mg "_law_goals" lGoals) (B : Bt mg) (c1 : Cal P w K mg base 1 "_law_buoy_by" spBuoy) (c2 : Cal P w K mg base 2 "_law_classes" spClasses) : Cal P w K mg base 3 "_law_goals" spLGoals := by
  refine cal (ps := ["_law_harbour_here", "_law_lamps"]) D (fun _ _ _ _ _ _ us hl => match us, hl with | [_, _], _ => rfl) scLGoals (fun vs H Q E h => ?_) (fun f cdv A outer s H vs Q E hr h => ?_)
  · obtain ⟨_, _, _, _, rfl, _⟩ := h; rfl
  · obtain ⟨h, c, n, t, rfl, h1, h7, ht, hh, k⟩ := h
    refine ⟨_, pss_cons (ps_set (i := 2) scLGoals.nd rfl (Or.inl rfl) (pe_listRg rfl (by rfl) B.list (prg_1 (by rfl) B.range (pe_op op_shl pe_int (pv 1)))))
      (pss_cons (ps_for PassesOwn.never rfl (pi_list (pc c2 hr (by decide) (by rfl) (pa_cons (pv 1) pa_nil))) (pg_name (i := 3) scLGoals.nd rfl (Or.inl rfl))
        (pss_cons (ps_par (i := 4) (j := 5) (by rfl) scLGoals.nd rfl rfl (by decide) rfl rfl (pa_cons (pc c1 hr (by decide) (by rfl) (pa_cons (pv 0) (pa_cons pe_int pa_nil))) (pa_cons (pe_callTy call_list_of (by rfl) B.list (by decide +kernel) (pa_cons (pv 3) pa_nil)) pa_nil)) (by rfl))
        (pss_cons (ps_if (pw_and (pt_cmpR op_eq (pv 4) pe_int (nomark _)) (pw_and1 (pt_cmpR op_gt (pe_callB call_len_seq (by rfl) B.len (by decide +kernel) (pa_cons (pv 3) pa_nil)) pe_int (nomark _)))).pt
          (pss_cons (ps_set (i := 6) scLGoals.nd rfl (Or.inl rfl) (pc c1 hr (by decide) (by rfl) (pa_cons (pv 0) (pa_cons (pe_callB call_len_seq (by rfl) B.len (by decide +kernel) (pa_cons (pv 3) pa_nil)) pa_nil))))
          (pss_cons (ps_set (i := 7) scLGoals.nd rfl (Or.inl rfl) (pe_op op_mod (pe_callTy call_int1 (by rfl) B.int (by decide +kernel) (pa_cons (pe_op op_add (pe_op op_add (pv 6) pe_int) (pc c1 hr (by decide) (by rfl) (pa_cons (pv 0) (pa_cons (pe_op op_sub (pe_callB call_len_seq (by rfl) B.len (by decide +kernel) (pa_cons (pv 3) pa_nil)) pe_int) pa_nil)))) pa_nil)) (pe_callB call_len_seq (by rfl) B.len (by decide +kernel) (pa_cons (pv 3) pa_nil))))
          (pss_one (ps_asg (pe_tup (pa_cons (pe_ix ix_list (pv 3) (pv 7) (fun _ _ => rfl)) (pa_cons (pe_ix ix_list (pv 3) (pv 6) (fun _ _ => rfl)) pa_nil)))
            (pg_tup rfl (pgs_cons (pg_sub (pv 2) (pe_ix ix_list (pv 3) (pv 6) (fun _ _ => rfl)) set_list) (pgs_cons (pg_sub (pv 2) (pe_ix ix_list (pv 3) (pv 7) (fun _ _ => rfl)) set_list) pgs_nil))))))) pss_nil)
        (pss_one (ps_if (pt_cmpR op_gt (pv 4) pe_int (nomark _)) (pss_one (ps_for PassesOwn.never rfl (pi_list (pv 3)) (pg_name (i := 8) scLGoals.nd rfl (Or.inl rfl))
          (pss_one (ps_asg (pe_bm PySem.F.plainAttrs_list PySem.F.slot_list_pop PySem.F.type_list_pop mt_popAt (pv 5) (pa_cons (pc c1 hr (by decide) (by rfl) (pa_cons (pv 0) (pa_cons (pe_callB call_len_seq (by rfl) B.len (by decide +kernel) (pa_cons (pv 5) pa_nil)) pa_nil))) pa_nil)) (pg_sub (pv 2) (pv 8) set_list))))) pss_nil)))))
      (pss_one (ps_ret (pv 2)))), ?_⟩
    have hp := pow7 h7
    refine ⟨_, rfl, _, _, rfl, rfl, ⟨Int.natCast_nonneg _, by omega, by decide⟩, _, congrArg V.int (shl1 (by omega)), RgOk.of_le (by decide) (by have := in62 (N := 2 ^ n) (by omega); omega) (by decide) (Int.natCast_nonneg _), fun G hG => ?_⟩
    rw [rgV_vN]
    have s1 := sm_upd (Same.refl H) hG (o := .lst (vN (List.range (2 ^ n))))
    have hG1 : (upd H G (.lst (vN (List.range (2 ^ n))))) G = some (.lst (vN (List.range (2 ^ n)))) := upd_same
    generalize (upd H G (.lst (vN (List.range (2 ^ n))))) = H1 at s1 hG1
    refine ⟨_, rfl, n, rfl, by omega, fun H2 q s2 hq2 hcl => ?_⟩
    obtain ⟨as, hqa, hal, han, hqn, hak⟩ := hcl
    have hGh : G ≠ h := fun z => by obtain ⟨u, e⟩ := hh.isH; rw [← z, hG] at e; cases e
    have hh1 : ∃ u, H1 h = some u := by obtain ⟨u, e⟩ := hh.isH; exact ⟨u, s1 _ _ e⟩
    have nA : ∀ {k : Nat} {a : Addr}, as[k]? = some a → a ≠ G ∧ a ≠ h ∧ H a = none := fun {k a} e => by
      have := (hak k a e).1
      refine ⟨fun z => ?_, fun z => ?_, s1.free this⟩
      · rw [z, hG1] at this; cases this
      obtain ⟨u, e'⟩ := hh1
      rw [z, e'] at this; cases this
    have nQG : q ≠ G := fun z => by rw [z, hG1] at hq2; cases hq2
    have nQh : q ≠ h := fun z => by obtain ⟨u, e'⟩ := hh1; rw [z, e'] at hq2; cases hq2
    have hqH : H q = none := s1.free hq2
    refine ⟨q, rfl, ⟨_, .of hqa⟩, ?_⟩
    refine for_it (walk_list (xs := as.map V.ref)) (fun i σ H' => (∃ a b c d e f, σ = [some (.ref h), some (.int (n : Int)), some (.ref G), a, b, c, d, e, f]) ∧ Bh h H H' ∧ Harb H' h c (t + 140 * i) ∧ H' q = some (.lst (as.map V.ref)) ∧ (∀ k a, as[k]? = some a → H' a = some (.lst (vN (cls n k)))) ∧ ∃ gl, H' G = some (.lst (vN gl)) ∧ Tab n gl ∧ ∀ r, r < 2 ^ n → i ≤ wt r → fn gl r = r)
      ⟨⟨_, _, _, _, _, _, rfl⟩, (Bh.of s1).trans (Bh.of s2), (hh.same s1).same s2, hqa, fun k a e => (hak k a e).2, _, s2 _ _ hG1, Tab.range n, fun r hr _ => fn_range hr⟩ (fun i σ H' _ p => .of p.2.2.2.1) ?_ ?_
    · rintro i x σ H3 H3' hi ⟨⟨a0, b0, c0, d0, e0, f0, rfl⟩, b3, hb3, hq3, hk3, gl, hG3, T, hid⟩ ⟨rfl, hx⟩
      rw [List.getElem?_map] at hx
      obtain ⟨a, ha, rfl⟩ : ∃ a, as[i]? = some a ∧ x = .ref a := by
        cases e : as[i]? with
        | none => rw [e] at hx; cases hx
        | some a => rw [e] at hx; exact ⟨a, rfl, (Option.some.inj hx).symm⟩
      rw [List.length_map, hal] at hi
      obtain ⟨naG, nah, naH⟩ := nA ha
      have ha3 := hk3 i a ha
      have hlc : (cls n i).length ≤ 128 := by
        unfold cls
        have := List.length_filter_le (fun r => decide (wt r = i)) (List.range (2 ^ n))
        rw [List.length_range] at this; omega
      refine ⟨_, rfl, h, c, 4, t + 140 * i, rfl, by decide, by decide, by omega, hb3, fun H4 way b4 hb4 hway => ?_⟩
      have ha4 := b4 a _ nah ha3
      refine ⟨_, rfl, a, _, rfl, .inl (.of ha4), fun L hL => ⟨_, _, rfl, ?_⟩⟩
      have s5 := sm_upd (Same.refl H4) hL (o := .lst (vN (cls n i)))
      have hL5 : (upd H4 L (.lst (vN (cls n i)))) L = some (.lst (vN (cls n i))) := upd_same
      have b5 := (b3.trans b4).trans (Bh.of s5)
      have hb5 := hb4.same s5
      have hLH : H L = none := Bh.free (b3.trans b4) hb4 hL
      have hq5 := s5 _ _ (b4 q _ nQh hq3)
      have hk5 : ∀ k a, as[k]? = some a → (upd H4 L (.lst (vN (cls n i)))) a = some (.lst (vN (cls n k))) := fun k b e => s5 _ _ (b4 b _ (nA e).2.1 (hk3 k b e))
      have hG5 := s5 _ _ (b4 G _ hGh hG3)
      have ha5 := hk5 i a ha
      have nLG : L ≠ G := fun z => by rw [z, b4 G _ hGh hG3] at hL; cases hL
      have nLq : L ≠ q := fun z => by rw [z, b4 q _ nQh hq3] at hL; cases hL
      have nLA : ∀ {k : Nat} {b : Addr}, as[k]? = some b → L ≠ b := fun {k b} e z => by rw [z, b4 b _ (nA e).2.1 (hk3 k b e)] at hL; cases hL
      generalize (upd H4 L (.lst (vN (cls n i)))) = H5 at b5 hb5 hq5 hk5 hG5 ha5 hL5
      obtain ⟨nLh, nLc⟩ := hh.ne hLH
      obtain ⟨nGh, nGc⟩ := hh.ne hG
      have fin : ∀ (H' : Hp) (gl' : List Nat) (T' : Nat) (x0 x1 x2 x3 x4 x5 : Option V), T' ≤ t + 140 * i + 140 → Bh h H H' → Harb H' h c T' → H' q = some (.lst (as.map V.ref)) → (∀ k a, as[k]? = some a → H' a = some (.lst (vN (cls n k)))) → H' G = some (.lst (vN gl')) → Tab n gl' → (∀ r, r < 2 ^ n → i + 1 ≤ wt r → fn gl' r = r) →
          (∃ a b c d e f, [some (V.ref h), some (V.int (n : Int)), some (V.ref G), x0, x1, x2, x3, x4, x5] = [some (V.ref h), some (V.int (n : Int)), some (V.ref G), a, b, c, d, e, f]) ∧ Bh h H H' ∧ Harb H' h c (t + 140 * (i + 1)) ∧ H' q = some (.lst (as.map V.ref)) ∧ (∀ k a, as[k]? = some a → H' a = some (.lst (vN (cls n k)))) ∧ ∃ gl, H' G = some (.lst (vN gl)) ∧ Tab n gl ∧ ∀ r, r < 2 ^ n → i + 1 ≤ wt r → fn gl r = r :=
        fun H' gl' T' x0 x1 x2 x3 x4 x5 lT h1 h2 h3 h4 h5 h6 h7 => ⟨⟨_, _, _, _, _, _, rfl⟩, h1, h2.mono (by omega), h3, h4, gl', h5, h6, h7⟩
      have hrl : ∀ {j r : Nat}, (cls n i)[j]? = some r → r < 2 ^ n ∧ wt r = i := fun e => mem_cls.mp (List.mem_iff_getElem?.mpr ⟨_, e⟩)
      have hglen : gl.length = 2 ^ n := T.len
      by_cases hw0 : way = 0
      · subst hw0
        refine ⟨_, rfl, rfl, _, rfl, iteT' (decide_eq_true rfl) ⟨_, rfl, a, _, rfl, .inl (.of ha5), _, _, rfl, rfl, _, rfl, ?_⟩⟩
        rw [vN_len]
        refine ite2 (fun e1 => ?_) (fun e1 => ?_)
        · have hlen : 2 ≤ (cls n i).length := by have := of_decide_eq_true e1; omega
          refine ⟨_, rfl, _, rfl, a, _, rfl, .inl (.of ha5), h, c, (vN (cls n i)).length, t + 140 * i + 1, rfl, by rw [vN_len]; omega, by rw [vN_len]; omega, by omega, hb5, fun H6 one b6 hb6 hone => ?_⟩
          rw [vN_len] at hone
          have ha6 := b6 a _ nah ha5
          refine ⟨_, rfl, _, _, rfl, rfl, _, rfl, _, rfl, a, _, rfl, .inl (.of ha6), _, _, rfl, rfl, h, c, (cls n i).length - 1, t + 140 * i + 1 + 1, ?_, by omega, by omega, by omega, hb6, fun H7 r2 b7 hb7 hr2 => ?_⟩
          · rw [vN_len]
            exact congrArg (fun z => [V.ref h, V.int z]) (show ((cls n i).length : Int) - 1 = (((cls n i).length - 1 : Nat) : Int) by omega)
          have ha7 := b7 a _ nah ha6
          refine ⟨_, _, rfl, rfl, .inl ⟨_, rfl, _, rfl, a, _, rfl, .inl (.of ha7), _, _, rfl, rfl, ?_, ?_⟩⟩
          · show (0 : Int) < ((vN (cls n i)).length : Int)
            rw [vN_len]; omega
          have eo : ((one : Int) + 1 + (r2 : Int)) % ((vN (cls n i)).length : Int) = (((one + 1 + r2) % (cls n i).length : Nat) : Int) := by rw [vN_len, Int.natCast_emod, Int.natCast_add, Int.natCast_add]; rfl
          have hol : (one + 1 + r2) % (cls n i).length < (cls n i).length := Nat.mod_lt _ (by omega)
          generalize (one + 1 + r2) % (cls n i).length = o at eo hol
          have g1 : (cls n i)[one]? = some (cls n i)[one] := List.getElem?_eq_getElem hone
          have g2 : (cls n i)[o]? = some (cls n i)[o] := List.getElem?_eq_getElem hol
          generalize (cls n i)[one] = r1 at g1
          generalize (cls n i)[o] = ro at g2
          obtain ⟨l1, w1⟩ := hrl g1
          obtain ⟨l2, w2⟩ := hrl g2
          have hG7 := b7 G _ hGh (b6 G _ hGh hG5)
          refine ⟨_, rfl, _, rfl, a, _, (o : Int), .int (ro : Int), rfl, congrArg V.int eo, .of ha7, atI_nat (vN_at g2), _, rfl, _, rfl, a, _, (one : Int), .int (r1 : Int), rfl, rfl, .of ha7, atI_nat (vN_at g1), ?_⟩
          refine ⟨by show (2 : Nat) ≤ sizeLine; decide, fun p hp => ?_⟩
          have s8 := sm_upd (Same.refl H7) hp (o := .tup [.int (ro : Int), .int (r1 : Int)])
          have ht8 : (upd H7 p (.tup [.int (ro : Int), .int (r1 : Int)])) p = some (.tup [.int (ro : Int), .int (r1 : Int)]) := upd_same
          generalize (upd H7 p (.tup [.int (ro : Int), .int (r1 : Int)])) = H8 at s8 ht8
          have b8 := ((b5.trans b6).trans b7).trans (Bh.of s8)
          have ha8 := s8 _ _ ha7
          have hG8 := s8 _ _ hG7
          refine ⟨p, _, rfl, .of ht8, rfl, _, _, rfl, ?_⟩
          refine ⟨_, rfl, _, rfl, _, rfl, a, _, (one : Int), .int (r1 : Int), rfl, rfl, .of ha8, atI_nat (vN_at g1), G, _, _, r1, rfl, rfl, hG8, ixN_nat (by rw [vN_len, hglen]; exact l1), _, _, rfl, ?_⟩
          rw [vN_set]
          refine ⟨_, rfl, _, rfl, _, rfl, a, _, (o : Int), .int (ro : Int), rfl, congrArg V.int eo, .of (by rw [upd_ne naG]; exact ha8), atI_nat (vN_at g2), G, _, _, ro, rfl, rfl, upd_same, ixN_nat (by rw [vN_len, List.length_set, hglen]; exact l2), rfl, ?_⟩
          rw [vN_set]
          refine ⟨_, rfl, _, _, rfl, rfl, _, rfl, iteF' (decide_eq_false (by omega)) ?_⟩
          have er1 := hid r1 l1 (by omega)
          have ero := hid ro l2 (by omega)
          have hT := T.swap (a := r1) (b := ro) l1 l2 (by rw [w1, w2])
          rw [er1, ero] at hT
          refine fin _ ((gl.set r1 ro).set ro r1) (t + 140 * i + 1 + 1 + 1) _ _ _ _ _ _ (by omega) (Bh.set (Bh.set b8 hG) hG) (((hb7.same s8).upd nGh nGc).upd nGh nGc) ?_ (fun k b e => ?_) upd_same hT.1 (fun r hr hwr => ?_)
          · rw [upd_ne nQG, upd_ne nQG]; exact s8 _ _ (b7 q _ nQh (b6 q _ nQh hq5))
          · rw [upd_ne (nA e).1, upd_ne (nA e).1]; exact s8 _ _ (b7 b _ (nA e).2.1 (b6 b _ (nA e).2.1 (hk5 k b e)))
          · rw [hT.2 r hr, swp_ne (fun z => by rw [z] at hwr; omega) (fun z => by rw [z] at hwr; omega)]
            exact hid r hr (by omega)
        · refine ⟨_, rfl, _, _, rfl, rfl, _, rfl, iteF' (decide_eq_false (by omega)) ?_⟩
          exact fin _ gl _ _ _ _ _ _ _ (by omega) b5 hb5 hq5 hk5 hG5 T (fun r hr hwr => hid r hr (by omega))
      · refine ⟨_, rfl, rfl, _, rfl, iteF' (decide_eq_false fun z => hw0 (by injection z with z; omega)) (iteF ?_)⟩
        refine ⟨_, rfl, _, _, rfl, rfl, _, rfl, ?_⟩
        refine ite2 (fun e1 => ?_) (fun e1 => ?_)
        · refine ⟨_, rfl, a, rfl, ⟨_, .of ha5⟩, ?_⟩
          refine for_it (walk_list (xs := vN (cls n i))) (fun j σ H' => (∃ x8, σ = [some (.ref h), some (.int (n : Int)), some (.ref G), some (.ref a), some (.int (way : Int)), some (.ref L), d0, e0, x8]) ∧ Bh h H H' ∧ Harb H' h c (t + 140 * i + 1 + j) ∧ H' q = some (.lst (as.map V.ref)) ∧ (∀ k a, as[k]? = some a → H' a = some (.lst (vN (cls n k)))) ∧
              ∃ vs left : List Nat, vs.length = j ∧ (vs ++ left).Perm (cls n i) ∧ H' L = some (.lst (vN left)) ∧ H' G = some (.lst (vN (setRows gl ((cls n i).take j) vs))))
            ⟨⟨_, rfl⟩, b5, hb5, hq5, hk5, [], cls n i, rfl, List.Perm.refl _, hL5, hG5⟩ (fun j σ H' _ p => .of (p.2.2.2.2.1 i a ha)) ?_ ?_
          · rintro j x σ H6 H6' hj ⟨⟨x8, rfl⟩, b6, hb6, hq6, hk6, vs, left, hvl, hpm, hL6, hG6⟩ ⟨rfl, hx⟩
            obtain ⟨r, hr', rfl⟩ := vN_get hx
            rw [vN_len] at hj
            obtain ⟨lr, wr⟩ := hrl hr'
            have hpl := perm_len hpm
            have hll : 1 ≤ left.length := by omega
            refine ⟨_, rfl, .inl ⟨rfl, _, .of hL6⟩, _, rfl, _, rfl, L, _, rfl, .inl (.of hL6), h, c, (vN left).length, t + 140 * i + 1 + j, rfl, by rw [vN_len]; omega, by rw [vN_len]; omega, by omega, hb6, fun H7 ix b7 hb7 hix => ?_⟩
            rw [vN_len] at hix
            have hL7 := b7 L _ nLh hL6
            have hG7 := b7 G _ hGh hG6
            have gy : left[ix]? = some left[ix] := List.getElem?_eq_getElem hix
            generalize left[ix] = y at gy
            refine ⟨L, _, (ix : Int), ix, .int (y : Int), rfl, rfl, hL7, by omega, by omega, seqIx (by rw [vN_len]; exact hix), vN_at gy, ?_⟩
            rw [vN_erase]
            refine ⟨_, rfl, _, rfl, G, _, _, r, rfl, rfl, by rw [upd_ne nLG.symm]; exact hG7, ixN_nat (by rw [vN_len, setRows_len, hglen]; exact lr), ?_⟩
            rw [vN_set]
            have etk : (cls n i).take (j + 1) = (cls n i).take j ++ [r] := by rw [List.take_succ, hr']; rfl
            have hrows : setRows gl ((cls n i).take (j + 1)) (vs ++ [y]) = (setRows gl ((cls n i).take j) vs).set r y := by
              rw [etk, setRows_snoc _ _ _ _ _ (by rw [List.length_take, hvl]; omega)]
            refine ⟨⟨_, rfl⟩, Bh.set (Bh.set (b6.trans b7) hLH) hG, ((hb7.mono (by omega)).upd nLh nLc).upd nGh nGc, ?_, fun k b e => ?_, vs ++ [y], left.eraseIdx ix, by rw [List.length_append, hvl]; rfl, perm_pop hpm gy, ?_, ?_⟩
            · rw [upd_ne nQG, upd_ne nLq.symm]; exact b7 q _ nQh hq6
            · rw [upd_ne (nA e).1, upd_ne (nLA e).symm]; exact b7 b _ (nA e).2.1 (hk6 k b e)
            · rw [upd_ne nLG]; exact upd_same
            · rw [upd_same, hrows]
          · rintro σ H6 ⟨⟨x8, rfl⟩, b6, hb6, hq6, hk6, vs, left, hvl, hpm, hL6, hG6⟩
            rw [vN_len] at hvl hb6 hG6
            rw [List.take_length] at hG6
            have hpl := perm_len hpm
            have hl0 : left = [] := List.length_eq_zero_iff.mp (by omega)
            subst hl0
            rw [List.append_nil] at hpm
            refine fin _ (setRows gl (cls n i) vs) _ _ _ _ _ _ _ (by omega) b6 hb6 hq6 hk6 hG6 (T.laid hpm) (fun r hr hwr => ?_)
            rw [setRows_out gl _ vs r (fun z hz => by rw [hglen]; exact (mem_cls.mp hz).1) (fun z => by have := (mem_cls.mp z).2; omega)]
            exact hid r hr (by omega)
        · exact fin _ gl _ _ _ _ _ _ _ (by omega) b5 hb5 hq5 hk5 hG5 T (fun r hr hwr => hid r hr (by omega))
    · rintro σ H3 ⟨⟨a0, b0, c0, d0, e0, f0, rfl⟩, b3, hb3, hq3, hk3, gl, hG3, T, hid⟩
      rw [List.length_map, hal] at hb3
      exact ⟨_, rfl, k _ G gl b3 hG hG3 T (hb3.mono (by omega))⟩
end
end K6

/-! KF5 -/
set_option Elab.async false
set_option linter.all false
set_option maxRecDepth 100000
set_option maxHeartbeats 4000000
namespace K6
open PySem PySem.Spec L2 KL
abbrev lPars : Stmt := top 64
abbrev lIsOne : Stmt := top 65
def spLPars (K : PySem.W.Frag) : Sp := fun vs H Q _ => ∃ (n : Nat) (a : Addr) (gl : List Nat), vs = [.int n, .ref a] ∧ (H a = some (.lst (vN gl)) ∨ H a = some (.tup (vN gl))) ∧ 1 ≤ n ∧ n ≤ 8 ∧ Tab n gl ∧ NewT H (vN (pars n (fn gl))) Q
def rIxA (K : PySem.W.Frag) : R2 := fun x y H Q => rIxL K x y H Q ∨ rIxT K x y H Q
theorem ix_a {X : Cx} : IxR X (rIxA X.K) := IxR.or ix_list ix_tup
theorem ixA {K : PySem.W.Frag} {H : Hp} {a : Addr} {gl : List Nat} {r x : Nat} {Q : VK} (h : H a = some (.lst (vN gl)) ∨ H a = some (.tup (vN gl))) (g : gl[r]? = some x) (q : Q (.int (x : Int)) H) : rIxA K (.ref a) (.int (r : Int)) H Q := by
  rcases h with h | h
  · exact .inl ⟨a, _, _, _, rfl, rfl, .of h, atI_nat (vN_at g), q⟩
  · exact .inr ⟨a, _, _, _, rfl, rfl, .of h, atI_nat (vN_at g), q⟩
/-- how many of those ahead of place i are greater than the one there -/
def cntAt (l : List Nat) (i : Nat) : Nat := ((l.take i).filter fun x => decide (l.getD i 0 < x)).length
theorem cnt_sum (l : List Nat) : ∀ i, i ≤ l.length → ((List.range i).map (cntAt l)).sum = inv (l.take i)
  | 0, _ => by simp [inv]
  | i + 1, h => by
    have hg : l[i]? = some l[i] := List.getElem?_eq_getElem (by omega)
    rw [List.range_succ, List.map_append, List.sum_append, cnt_sum l i (by omega), List.take_succ, hg]
    show _ = inv (l.take i ++ [l[i]])
    rw [inv_snoc]
    simp [cntAt, hg]
section
variable {P : Program} {w : World} {K : PySem.W.Frag} {mg : Str → Option Value} {base : Heap}
theorem scLPars : FnScope ["_law_lamps", "_law_goals_here", "_law_found", "_law_rows", "_law_some", "_law_many", "_law_row", "_law_at", "_law_goal", "_law_other"] ["_law_lamps", "_law_goals_here"] (defScope lPars) := ⟨rfl, rfl, rfl, by decide +kernel, rfl, by decide +kernel, by decide +kernel⟩
theorem ok_lpars (D : Df K mg "_law_parities" lPars) (B : Bt mg) (c1 : Cal P w K mg base 2 "_law_classes" spClasses) : Cal P w K mg base 3 "_law_parities" (spLPars K) := by
  refine cal (ps := ["_law_lamps", "_law_goals_here"]) D (fun _ _ _ _ _ _ us hl => match us, hl with | [_, _], _ => rfl) scLPars (fun vs H Q E h => ?_) (fun f cdv A outer s H vs Q E hr h => ?_)
  · obtain ⟨_, _, _, rfl, _⟩ := h; rfl
  · obtain ⟨n, a, gl, rfl, ha, h1, h8, T, k⟩ := h
    refine ⟨_, pss_cons (ps_set (i := 2) scLPars.nd rfl (Or.inl rfl) (pe_lst pa_nil))
      (pss_cons (ps_for PassesOwn.never rfl (pi_list (pe_slice sl_list (pc c1 hr (by decide) (by rfl) (pa_cons (pv 0) pa_nil)) (po_some pe_int) (po_some (pv 0)))) (pg_name (i := 3) scLPars.nd rfl (Or.inl rfl))
        (pss_cons (ps_set (i := 4) scLPars.nd rfl (Or.inr rfl) (pe_lc (own := [("_law_row", 6)]) (g := gName 6) (tt := tYes) rfl scLPars.nd (pi_list (pv 3))
            (blkOk_by (own := [("_law_row", 6)]) (N := ["_law_lamps", "_law_goals_here", "_law_found", "_law_rows", "_law_some", "_law_many", "_law_row", "_law_at", "_law_goal", "_law_other"]) (sc := defScope lPars) (by decide +kernel)) (fun _ _ _ _ _ => pg_name (i := 6) scLPars.nd rfl (Or.inl rfl)) (fun _ _ _ _ _ => pts_nil)
            (fun _ _ _ _ _ => pe_ix (r := rIxA K) ix_a (pv 1) (pv 6) (fun _ _ => rfl))))
        (pss_cons (ps_set (i := 5) scLPars.nd rfl (Or.inl rfl) (pe_callB (cr_sum rfl) (by rfl) B.sum (by decide +kernel) (pa_cons (pe_lc (own := [("_law_at", 7), ("_law_goal", 8)]) (g := gTup K 2 (gCons (gName 7) (gCons (gName 8) gNil))) (tt := tYes) rfl scLPars.nd (pi_enum (by rfl) B.enumerate (pa_cons (pv 4) pa_nil))
            (blkOk_by (own := [("_law_at", 7), ("_law_goal", 8)]) (N := ["_law_lamps", "_law_goals_here", "_law_found", "_law_rows", "_law_some", "_law_many", "_law_row", "_law_at", "_law_goal", "_law_other"]) (sc := defScope lPars) (by decide +kernel))
            (fun _ _ _ _ _ => pg_tup rfl (pgs_cons (pg_name (i := 7) scLPars.nd rfl (Or.inl rfl)) (pgs_cons (pg_name (i := 8) scLPars.nd rfl (Or.inr rfl)) pgs_nil))) (fun _ _ _ _ _ => pts_nil)
            (fun _ _ _ _ _ => pe_callB (r := fun xs H Q => ∃ p ys, xs = [.ref p] ∧ (SqL K H p ys ∨ SqT K H p ys) ∧ Q (.int ys.length) H) call_len_seq (by rfl) B.len (by decide +kernel) (pa_cons (pe_lc (wi := iList K (tSl (rSlL K) (tVar 4) tNoPart (tPart (tVar 7)))) (own := [("_law_other", 9)]) (g := gName 9) (te := tC (.int 1)) rfl scLPars.nd (pi_list (pe_slice (r := rSlL K) sl_list (pv 4) po_none (po_some (pv 7))))
              (blkOk_by (own := [("_law_other", 9)]) (N := ["_law_lamps", "_law_goals_here", "_law_found", "_law_rows", "_law_some", "_law_many", "_law_row", "_law_at", "_law_goal", "_law_other"]) (sc := relS (lcs (argE 0 (retE (forB (stE lPars 1) 1)))) (defScope lPars)) (by decide +kernel)) (fun _ _ _ _ _ => pg_name (i := 9) scLPars.nd rfl (Or.inl rfl))
              (fun _ _ _ _ _ => pts_one (pt_cmpR op_gt (pv 9) (pv 8) (nomark _))) (fun _ _ _ _ _ => pe_int)) pa_nil))) pa_nil)))
        (pss_one (ps_expr (pe_bm PySem.F.plainAttrs_list PySem.F.slot_list_append PySem.F.type_list_append mt_append (pv 2) (pa_cons (pe_op op_mod (pe_callTy call_int1 (by rfl) B.int (by decide +kernel) (pa_cons (pv 5) pa_nil)) pe_int) pa_nil)))))))
      (pss_one (ps_ret (pe_callTy cr_tupOf (by rfl) B.tuple (by decide +kernel) (pa_cons (pv 2) pa_nil))))), ?_⟩
    have hp := (pow8 h8).2
    refine ⟨by decide, fun F hF => ?_⟩
    have s1 := sm_upd (Same.refl H) hF (o := .lst [])
    have hF1 : (upd H F (.lst [])) F = some (.lst []) := upd_same
    generalize (upd H F (.lst [])) = H1 at s1 hF1
    refine ⟨_, rfl, n, rfl, h8, fun H2 q s2 hq hcl => ?_⟩
    obtain ⟨as, hqa, hal, han, hqn, hak⟩ := hcl
    refine ⟨_, rfl, _, rfl, _, rfl, q, _, rfl, .of hqa, fun p1 hp1 => ?_⟩
    rw [cut_mid _ (by rw [List.length_map, hal]) h1]
    have ebs : ((as.map V.ref).drop 1).take (n - 1) = ((as.drop 1).take (n - 1)).map V.ref := by rw [List.map_take, List.map_drop]
    rw [ebs]
    have hbl : ((as.drop 1).take (n - 1)).length = n - 1 := by rw [List.length_take, List.length_drop, hal]; omega
    have hbg : ∀ i, i < n - 1 → ((as.drop 1).take (n - 1))[i]? = as[i + 1]? := fun i hi => by rw [List.getElem?_take_of_lt hi, List.getElem?_drop, Nat.add_comm]
    generalize (as.drop 1).take (n - 1) = bs at hbl hbg
    have s3 := sm_upd (Same.trans s1 s2) hp1 (o := .lst (bs.map V.ref))
    have s3' := sm_upd (Same.refl H2) hp1 (o := .lst (bs.map V.ref))
    have nFA : ∀ {k : Nat} {b : Addr}, as[k]? = some b → b ≠ F := fun {k b} e z => by have := (hak k b e).1; rw [z, hF1] at this; cases this
    have nFp : p1 ≠ F := fun z => by rw [z, s2 _ _ hF1] at hp1; cases hp1
    have hFs : ∀ {H' : Hp}, Same H H' → Same H (upd H' F (.lst [])) → True := fun _ _ => trivial
    have hpl : (pars n (fn gl)).length = n - 1 := pars_len _ _
    refine ⟨p1, rfl, ⟨_, .of upd_same⟩, ?_⟩
    refine for_it (walk_list (xs := bs.map V.ref)) (fun i σ H' => (∃ x3 x4 x5, σ = [some (.int (n : Int)), some (.ref a), some (.ref F), x3, x4, x5, none, none, none, none]) ∧ Same H H' ∧ H' F = some (.lst (vN ((pars n (fn gl)).take i))) ∧ H' p1 = some (.lst (bs.map V.ref)) ∧ ∀ k b, as[k]? = some b → H' b = some (.lst (vN (cls n k))))
      ⟨⟨_, _, _, rfl⟩, s3, s3' _ _ (s2 _ _ hF1), upd_same, fun k b e => s3' _ _ (hak k b e).2⟩ (fun i σ H' _ p => .of p.2.2.2.1) ?_ ?_
    · rintro i x σ H3 H3' hi ⟨⟨x3, x4, x5, rfl⟩, sm, hF3, hp3, hk3⟩ ⟨rfl, hx⟩
      rw [List.length_map, hbl] at hi
      rw [List.getElem?_map, hbg i hi] at hx
      obtain ⟨b, hb, rfl⟩ : ∃ b, as[i + 1]? = some b ∧ x = .ref b := by
        cases e : as[i + 1]? with
        | none => rw [e] at hx; cases hx
        | some b => rw [e] at hx; exact ⟨b, rfl, (Option.some.inj hx).symm⟩
      have hb3 := hk3 _ _ hb
      have hlc : (cls n (i + 1)).length ≤ 256 := by
        unfold cls
        have := List.length_filter_le (fun r => decide (wt r = i + 1)) (List.range (2 ^ n))
        rw [List.length_range] at this; omega
      refine ⟨_, rfl, b, rfl, ⟨_, .of hb3⟩, fun D hD => ?_⟩
      have hik : ik n (fn gl) (i + 1) = inv ((cls n (i + 1)).map (fn gl)) := rfl
      have hget : ∀ {j r : Nat}, (cls n (i + 1))[j]? = some r → ((cls n (i + 1)).map (fn gl))[j]? = some (fn gl r) := fun e => by rw [List.getElem?_map, e]; rfl
      have hLl : ((cls n (i + 1)).map (fn gl)).length = (cls n (i + 1)).length := List.length_map _
      generalize hL : (cls n (i + 1)).map (fn gl) = L at hik hget hLl
      refine lc_map (walk_list (xs := vN (cls n (i + 1)))) (vN L) (by rw [vN_len, vN_len, hLl]) (by rw [vN_len]; omega) hD (fun H' s => .of (s _ _ hb3)) ?_ ?_
      · rintro j x H4 H4' R hj s4 ⟨rfl, hx⟩ kR
        obtain ⟨r, hr', rfl⟩ := vN_get hx
        have hr2 := (mem_cls.mp (List.mem_iff_getElem?.mpr ⟨j, hr'⟩)).1
        have sa := Same.trans sm s4
        refine ⟨rfl, _, rfl, _, rfl, ixA (ha.elim (fun z => .inl (sa _ _ z)) (fun z => .inr (sa _ _ z))) (T.get hr2) (kR _ _ (Same.refl _) (vN_at (hget hr')))⟩
      · intro H4 s4 hd4
        refine ⟨_, rfl, D, _, rfl, .of hd4, fun D2 hD2 => ?_⟩
        refine lc_map (walk_enum (xs := vN L)) (vN ((List.range L.length).map (cntAt L))) (by rw [vN_len, vN_len, List.length_map, List.length_range]) (by rw [vN_len]; omega) hD2 (fun H' s => .of (s _ _ hd4)) ?_ ?_
        · rintro j x H5 H5' R hj s5 ⟨T1, y, z, rfl, hT1, rfl, hy, hz⟩ kR
          obtain ⟨g, hg, rfl⟩ := vN_get hz
          have ey : V.int (j : Int) = y := Option.some.inj hy
          subst ey
          rw [vN_len] at hj
          have s6 := sm_upd (Same.refl H5) hT1 (o := .tup [.int (j : Int), .int (g : Int)])
          refine ⟨T1, _, rfl, .of upd_same, rfl, _, _, rfl, _, _, rfl, rfl, rfl, ?_⟩
          have hd6 := s6 _ _ (s5 _ _ hd4)
          generalize (upd H5 T1 (.tup [.int (j : Int), .int (g : Int)])) = H6 at s6 hd6
          refine ⟨_, rfl, _, rfl, _, rfl, D, _, rfl, .of hd6, fun p3 hp3 => ?_⟩
          have ecut : cutV (vN L) none (some (j : Int)) = vN (L.take j) := by rw [cut_take]; exact (List.map_take ..).symm
          rw [ecut]
          have s7 := sm_upd s6 hp3 (o := .lst (vN (L.take j)))
          have hp7 : (upd H6 p3 (.lst (vN (L.take j)))) p3 = some (.lst (vN (L.take j))) := upd_same
          generalize (upd H6 p3 (.lst (vN (L.take j)))) = H7 at s7 hp7
          refine ⟨p3, rfl, ⟨_, .of hp7⟩, fun D3 hD3 => ?_⟩
          refine lc_it (walk_list (xs := vN (L.take j))) (fun m H' => Same H7 H' ∧ H' D3 = some (.lst (List.replicate (((L.take j).take m).filter fun x => decide (g < x)).length (V.int 1)))) ⟨sm_upd (Same.refl _) hD3, by rw [upd_same]; rfl⟩ (fun m H' _ p => .of (p.1 _ _ hp7)) ?_ ?_
          · rintro m x H8 H8' hm ⟨s8, hd8⟩ ⟨rfl, hx⟩
            obtain ⟨o, ho, rfl⟩ := vN_get hx
            have etk : (L.take j).take (m + 1) = (L.take j).take m ++ [o] := by rw [List.take_succ, ho]; rfl
            refine ⟨rfl, _, rfl, _, rfl, _, _, rfl, rfl, _, rfl, ?_⟩
            refine ite2 (fun e => ?_) (fun e => ?_)
            · have hgo : g < o := by have := of_decide_eq_true e; omega
              refine ⟨_, hd8, small1000 ?_, sm_set s8 hD3, ?_⟩
              · rw [List.length_replicate]
                have := List.length_filter_le (fun x => decide (g < x)) ((L.take j).take m)
                have h2 : ((L.take j).take m).length ≤ L.length := by rw [List.length_take, List.length_take]; omega
                omega
              · rw [upd_same, etk, List.filter_append, List.filter_cons, if_pos (decide_eq_true hgo), List.length_append]
                show _ = some (HO.lst (List.replicate (_ + 1) (V.int 1)))
                rw [List.replicate_succ']
            · have hgo : ¬ g < o := fun z => e (decide_eq_true (by omega))
              refine ⟨s8, ?_⟩
              rw [hd8, etk, List.filter_append, List.filter_cons, if_neg (fun z => hgo (of_decide_eq_true z))]
              simp
          · rintro H8 ⟨s8, hd8⟩
            rw [vN_len, List.take_length] at hd8
            refine ⟨D3, _, rfl, .inl (.of hd8), kR _ _ (Same.trans s7 s8) ?_⟩
            have hgd : L.getD j 0 = g := by rw [List.getD_eq_getElem?_getD, hg]; rfl
            have hc : ((List.range L.length).map (cntAt L))[j]? = some (cntAt L j) := by rw [List.getElem?_map, List.getElem?_range hj]; rfl
            rw [vN_at hc, List.length_replicate]
            unfold cntAt
            rw [hgd]
        · intro H5 s5 hd5
          have s35 := Same.trans s4 s5
          have hF5 := s35 _ _ hF3
          refine ⟨D2, _, rfl, .of (by rw [hd5, vN_vI]), ?_⟩
          have esum : (vI ((List.range L.length).map (cntAt L))).sum = ((inv L : Nat) : Int) := by
            rw [sum_vI, cnt_sum L L.length (Nat.le_refl _), List.take_length]
          refine ⟨_, rfl, .inl ⟨rfl, _, .of hF5⟩, _, rfl, .inl ⟨_, rfl, _, _, rfl, rfl, (by show (0 : Int) < 2; decide), F, _, _, rfl, rfl, hF5, small1000 (by rw [vN_len, List.length_take]; omega), ?_⟩⟩
          have hpi : (pars n (fn gl))[i]? = some (inv L % 2) := by
            unfold pars
            rw [List.getElem?_map, List.getElem?_range hi]
            show some (ik n (fn gl) (i + 1) % 2) = _
            rw [hik]
          refine ⟨⟨_, _, _, rfl⟩, sm_set (Same.trans sm s35) hF, ?_, ?_, fun k b' e => ?_⟩
          · rw [upd_same, vN_take hpi]
            show some (HO.lst (vN ((pars n (fn gl)).take i) ++ [V.int ((vI ((List.range L.length).map (cntAt L))).sum % 2)])) = _
            rw [esum]; rfl
          · rw [upd_ne nFp]; exact s35 _ _ hp3
          · rw [upd_ne (nFA e)]; exact s35 _ _ (hk3 k b' e)
    · rintro σ H3 ⟨⟨x3, x4, x5, rfl⟩, sm, hF3, hp3, hk3⟩
      rw [List.length_map, hbl, List.take_of_length_le (by rw [hpl]; exact Nat.le_refl _)] at hF3
      refine ⟨_, rfl, F, _, rfl, .inl ⟨.of hF3, fun p2 hp2 => ?_⟩⟩
      exact k _ p2 (sm_upd sm hp2) (sm.free hp2) upd_same
end
end K6

/-! KF6 -/
set_option Elab.async false
set_option linter.all false
set_option maxRecDepth 100000
set_option maxHeartbeats 4000000
namespace K6
open PySem PySem.Spec L2 KL
def spIsOne (K : PySem.W.Frag) : Sp := fun vs H Q _ => ∃ (t : Addr) (p : List Nat), vs = [.ref t] ∧ H t = some (.tup (vN p)) ∧ p.length ≤ 64 ∧ ∀ H', Same H H' → Q (.bl (isOne p)) H'
theorem cut_butlast (xs : List V) : cutV xs none (some (-1 : Int)) = xs.dropLast := by
  unfold cutV
  rw [HT.sIx_none, List.drop_zero, Nat.sub_zero, List.dropLast_eq_take]
  congr 1
  show (if (-1 : Int) < 0 then ((-1 : Int) + (xs.length : Int)).toNat else min (-1 : Int).toNat xs.length) = _
  rw [if_pos (by decide)]; omega
theorem oneRun_drop {l : List Nat} {i x r : Nat} {f : List Nat} (h : l[i]? = some x) : oneRun r f (l.drop i) = oneRun ((x + r) % 2) (f ++ [(x + r) % 2]) (l.drop (i + 1)) := by
  obtain ⟨hl, e⟩ := List.getElem?_eq_some_iff.mp h
  rw [List.drop_eq_getElem_cons hl, e]; rfl
theorem oneRun_len : ∀ (l : List Nat) (r : Nat) (f : List Nat), (oneRun r f l).2.length = f.length + l.length
  | [], _, _ => rfl
  | x :: l, r, f => by
    show (oneRun _ (f ++ [_]) l).2.length = _
    rw [oneRun_len l, List.length_append, List.length_cons]; simp; omega
section
variable {P : Program} {w : World} {K : PySem.W.Frag} {mg : Str → Option Value} {base : Heap}
theorem scIsOne : FnScope ["_law_parities_here", "_law_bits", "_law_turn", "_law_rest", "_law_found", "_law_bit"] ["_law_parities_here"] (defScope lIsOne) := ⟨rfl, rfl, rfl, by decide +kernel, rfl, by decide +kernel, by decide +kernel⟩
theorem ok_lisone (D : Df K mg "_law_is_one" lIsOne) (B : Bt mg) : Cal P w K mg base 1 "_law_is_one" (spIsOne K) := by
  refine cal (ps := ["_law_parities_here"]) D (fun _ _ _ _ _ _ us hl => match us, hl with | [_], _ => rfl) scIsOne (fun vs H Q E h => ?_) (fun f cdv A outer s H vs Q E hr h => ?_)
  · obtain ⟨_, _, rfl, _⟩ := h; rfl
  · obtain ⟨t, p, rfl, ht, hpl, k⟩ := h
    refine ⟨_, pss_cons (ps_set (i := 1) scIsOne.nd rfl (Or.inl rfl) (pe_callTy call_list_of (by rfl) B.list (by decide +kernel) (pa_cons (pv 0) pa_nil)))
      (pss_cons (ps_for PassesOwn.never rfl (pi_range1 (by rfl) B.range (pa_cons (pe_op op_sub (pe_callB call_len_seq (by rfl) B.len (by decide +kernel) (pa_cons (pv 0) pa_nil)) pe_int) pa_nil)) (pg_name (i := 2) scIsOne.nd rfl (Or.inl rfl))
        (pss_cons (ps_par (i := 3) (j := 4) (by rfl) scIsOne.nd rfl rfl (by decide) rfl rfl (pa_cons pe_int (pa_cons (pe_lst pa_nil) pa_nil)) (by rfl))
        (pss_cons (ps_for PassesOwn.never rfl (pi_list (pe_revL (pv 1))) (pg_name (i := 5) scIsOne.nd rfl (Or.inl rfl))
          (pss_cons (ps_set (i := 3) scIsOne.nd rfl (Or.inl rfl) (pe_op op_mod (pe_callTy call_int1 (by rfl) B.int (by decide +kernel) (pa_cons (pe_op op_add (pv 5) (pv 3)) pa_nil)) pe_int))
          (pss_one (ps_expr (pe_bm PySem.F.plainAttrs_list PySem.F.slot_list_append PySem.F.type_list_append mt_append (pv 4) (pa_cons (pv 3) pa_nil))))))
        (pss_cons (ps_if (pt_cmpR op_eq (pv 3) pe_int (nomark _)) (pss_one (ps_ret pe_bl)) pss_nil)
        (pss_one (ps_set (i := 1) scIsOne.nd rfl (Or.inl rfl) (pe_revL (pe_slice sl_list (pv 4) po_none (po_some (pe_un un_neg pe_int)))))))))) 
      (pss_one (ps_ret pe_bl))), ?_⟩
    refine ⟨_, rfl, t, _, rfl, .inr (.of ht), fun B0 hB0 => ?_⟩
    have s1 := sm_upd (Same.refl H) hB0 (o := .lst (vN p))
    have hB1 : (upd H B0 (.lst (vN p))) B0 = some (.lst (vN p)) := upd_same
    generalize (upd H B0 (.lst (vN p))) = H1 at s1 hB1
    refine ⟨_, rfl, t, _, rfl, .inr (.of (s1 _ _ ht)), ?_⟩
    rw [vN_len]
    refine ⟨_, _, rfl, rfl, _, rfl, by omega, by omega, ?_⟩
    have em : ((p.length : Int) - 2).toNat = p.length - 2 := by omega
    rw [em]
    refine for_range (fun i σ H' => (∃ (b : Addr) (bits : List Nat) (x2 x3 x4 x5 : Option V), σ = [some (.ref t), some (.ref b), x2, x3, x4, x5] ∧ H' b = some (.lst (vN bits)) ∧ bits.length ≤ 64 ∧ oneGo (p.length - 2 - i) bits = isOne p) ∧ Same H H')
      ⟨⟨B0, p, _, _, _, _, rfl, hB1, hpl, rfl⟩, s1⟩ ?_ ?_
    · rintro i σ H2 hi ⟨⟨b, bits, x2, x3, x4, x5, rfl, hb, hbl, hgo⟩, s2⟩
      refine ⟨by decide, fun F hF => ?_⟩
      have s3 := sm_upd s2 hF (o := .lst [])
      have hF3 : (upd H2 F (.lst [])) F = some (.lst []) := upd_same
      have hb3 := (sm_upd (Same.refl H2) hF (o := .lst [])) _ _ hb
      have hFH : H F = none := s2.free hF
      generalize (upd H2 F (.lst [])) = H3 at s3 hF3 hb3
      refine ⟨_, _, rfl, ?_⟩
      refine ⟨_, rfl, b, _, rfl, .of hb3, fun R hR => ?_⟩
      rw [show (vN bits).reverse = vN bits.reverse from (List.map_reverse).symm]
      have s4 := sm_upd s3 hR (o := .lst (vN bits.reverse))
      have hR4 : (upd H3 R (.lst (vN bits.reverse))) R = some (.lst (vN bits.reverse)) := upd_same
      have s34 := sm_upd (Same.refl H3) hR (o := .lst (vN bits.reverse))
      have hRF : R ≠ F := fun z => by rw [z, hF3] at hR; cases hR
      generalize (upd H3 R (.lst (vN bits.reverse))) = H4 at s4 hR4 s34
      have hgo' : oneGo (p.length - 2 - i) bits = if (oneRun 0 [] bits.reverse).1 = 1 then false else oneGo (p.length - 2 - (i + 1)) (oneRun 0 [] bits.reverse).2.dropLast.reverse := by
        rw [show p.length - 2 - i = (p.length - 2 - (i + 1)) + 1 by omega]; rfl
      have hrl : bits.reverse.length = bits.length := List.length_reverse
      have hR2len := oneRun_len bits.reverse 0 []
      generalize bits.reverse = rb at *
      refine ⟨R, rfl, ⟨_, .of hR4⟩, ?_⟩
      refine for_it (walk_list (xs := vN rb)) (fun j σ H' => ∃ (r : Nat) (f : List Nat) (x5 : Option V), σ = [some (.ref t), some (.ref b), some (.int (0 + (i : Nat) : Int)), some (.int (r : Int)), some (.ref F), x5] ∧ Same H H' ∧ H' F = some (.lst (vN f)) ∧ H' R = some (.lst (vN rb)) ∧ f.length = j ∧ oneRun r f (rb.drop j) = oneRun 0 [] rb)
        ⟨0, [], _, rfl, s4, s34 _ _ hF3, hR4, rfl, rfl⟩ (fun j σ H' _ q => by obtain ⟨_, _, _, _, _, _, e, _⟩ := q; exact .of e) ?_ ?_
      · rintro j x σ H5 H5' hj ⟨r, f', y5, rfl, s5, hF5, hR5, hfl, hrun⟩ ⟨rfl, hx⟩
        obtain ⟨y, hy, rfl⟩ := vN_get hx
        rw [vN_len] at hj
        rw [oneRun_drop hy] at hrun
        refine ⟨_, rfl, _, rfl, _, _, rfl, rfl, .inl ⟨_, rfl, _, _, rfl, rfl, (by show (0 : Int) < 2; decide), ?_⟩⟩
        have e2 : ((y : Int) + (r : Int)) % 2 = (((y + r) % 2 : Nat) : Int) := by omega
        refine ⟨_, rfl, .inl ⟨rfl, _, .of hF5⟩, _, rfl, F, _, _, rfl, rfl, hF5, small1000 (by rw [vN_len]; omega), ?_⟩
        refine ⟨(y + r) % 2, f' ++ [(y + r) % 2], some (.int (y : Int)), ?_, sm_set s5 hFH, ?_, by rw [upd_ne hRF]; exact hR5, by rw [List.length_append, hfl]; rfl, hrun⟩
        · rw [← e2]; rfl
        · rw [upd_same, vN_app]
          show some (HO.lst (vN f' ++ [V.int (((y : Int) + (r : Int)) % 2)])) = _
          rw [e2]; rfl
      · rintro σ H5 ⟨r, f', y5, rfl, s5, hF5, hR5, hfl, hrun⟩
        rw [vN_len, List.drop_length] at hrun
        have hrun : oneRun 0 [] rb = (r, f') := hrun.symm
        rw [hrun] at hgo' hR2len
        rw [hgo'] at hgo
        refine ⟨_, rfl, rfl, _, rfl, ?_⟩
        refine ite2 (fun e => ?_) (fun e => ?_)
        · have e' : r = 1 := by have := of_decide_eq_true e; injection this with this; omega
          rw [if_pos e'] at hgo
          rw [← hgo] at k
          exact k _ s5
        · have e' : ¬ r = 1 := fun z => e (decide_eq_true (by rw [z]; rfl))
          rw [if_neg e'] at hgo
          refine ⟨_, rfl, _, rfl, _, rfl, F, _, rfl, .of hF5, fun p1 hp1 => ?_⟩
          have ecut : cutV (vN f') none (some (-1 : Int)) = vN f'.dropLast := by
            rw [cut_butlast]; exact List.map_dropLast.symm
          rw [ecut]
          have s6 := sm_upd s5 hp1 (o := .lst (vN f'.dropLast))
          have h6 : (upd H5 p1 (.lst (vN f'.dropLast))) p1 = some (.lst (vN f'.dropLast)) := upd_same
          generalize (upd H5 p1 (.lst (vN f'.dropLast))) = H6 at s6 h6
          refine ⟨p1, _, rfl, .of h6, fun p2 hp2 => ?_⟩
          rw [show (vN f'.dropLast).reverse = vN f'.dropLast.reverse from (List.map_reverse).symm]
          refine ⟨⟨p2, f'.dropLast.reverse, _, _, _, _, rfl, upd_same, ?_, hgo⟩, sm_upd s6 hp2⟩
          rw [List.length_reverse, List.length_dropLast]
          simp at hR2len
          omega
    · rintro σ H2 ⟨⟨b, bits, x2, x3, x4, x5, rfl, hb, hbl, hgo⟩, s2⟩
      rw [Nat.sub_self] at hgo
      rw [← hgo] at k
      exact k _ s2
end
end K6

/-! KF7 -/
set_option Elab.async false
set_option linter.all false
set_option maxRecDepth 100000
set_option maxHeartbeats 4000000
namespace K6
open PySem PySem.Spec L2 KL
abbrev lHeard : Stmt := top 66
/-- one of the text's three errors, seen by isinstance -/
structure HdX (K : PySem.W.Frag) (LE CB CN CM D : Addr) (b n m : Bool) : Prop where
  up : PySem.W.exmOne K (.ref D) (.ref LE) = some true
  E : ExcC K D
  kb : PySem.W.kitOne K (.ref D) (.ref CB) = some b
  kn : PySem.W.kitOne K (.ref D) (.ref CN) = some n
  km : PySem.W.kitOne K (.ref D) (.ref CM) = some m
structure HdC (K : PySem.W.Frag) (mg : Str → Option Value) (LE CB CN CM : Addr) : Prop where
  gL : mg "LampError" = some (.ref LE)
  gB : mg "BadTable" = some (.ref CB)
  gN : mg "BadNumber" = some (.ref CN)
  gM : mg "TooMany" = some (.ref CM)
  xB : HdX K LE CB CN CM CB true false false
  xN : HdX K LE CB CN CM CN false true false
  xM : HdX K LE CB CN CM CM false false true
  fB : PySem.W.findIn K (.ref CB) "part" = some none
  fN : PySem.W.findIn K (.ref CN) "part" = some none
  fW : PySem.W.findIn K (.ref CM) "what" = some none
  fM : PySem.W.findIn K (.ref CM) "most" = some none
/-- what is told of an error of class D with the fields fs -/
inductive Kind (CB CN CM : Addr) : Addr → List (Str × V) → V → V → Prop
  | B {fs : List (Str × V)} {p : V} (h : fs.lookup ("part" : Str) = some p) : Kind CB CN CM CB fs (.str "table") p
  | N {fs : List (Str × V)} {p : V} (h : fs.lookup ("part" : Str) = some p) : Kind CB CN CM CN fs (.str "number") p
  | M {fs : List (Str × V)} {x y : V} (h1 : fs.lookup ("what" : Str) = some x) (h2 : fs.lookup ("most" : Str) = some y) : Kind CB CN CM CM fs x y
def TTh (CB CN CM : Addr) (tl : XK → Hp → VK → Prop) (H : Hp) (Q : VK) : Prop := ∃ (D : Addr) (fs : List (Str × V)) (x y : V), Kind CB CN CM D fs x y ∧ NewT H [x, y] Q ∧ ∀ (E : XK) (Qn : VK), Rs D fs H E → tl E H Qn
theorem takes_no {X : Cx} : Takes X (fun _ _ _ _ => False) := fun u s' ⟨_, _, _, _, _, _, _, _, _, _, _, _, _, _, _, _, w⟩ => w.elim
theorem scHeard : FnScope ["_law_ask", "_law_caught", "error"] ["_law_ask"] (defScope lHeard) := ⟨rfl, rfl, rfl, by decide +kernel, rfl, by decide +kernel, by decide +kernel⟩
theorem gives_heard {X : Cx} {g LE CB CN CM : Addr} {cdg : Value} {q : Str} (B : Bt X.mg) (hc : HdC X.K X.mg LE CB CN CM) : LamD.GivesTo X ["_law_ask", "_law_caught", "error"] "_law_heard" (defScope lHeard) g cdg (defBody lHeard) "_law_ask" q (TTh CB CN CM) := by
  intro f c' s H Q tl act hcode ⟨D, fs, x, y, kd, k, hcall⟩
  refine ⟨_, pss_cons (ps_set (i := 1) scHeard.nd rfl (Or.inl rfl) pe_non)
    (pss_cons (ps_try_asT (i := 2) (c := .ref LE) (Wout := fun _ _ _ _ => False) rfl rfl rfl scHeard.nd rfl rfl ⟨by rfl, by decide, .inl hc.gL⟩ takes_no (fun W pn xe tk _ => pss_one (ps_expr (act W pn xe _ _ tk)))
      (fun a oe cls d pn hz hf => pss_one (ps_set (i := 1) scHeard.nd rfl (Or.inl rfl) (pv 2))))
    (pss_cons (ps_if (pt_val (pe_callB call_isX (by rfl) B.isinstance (by decide +kernel) (pa_cons (pv 1) (pa_cons (pe_glob (v := .ref CM) (by rfl) hc.gM rfl) pa_nil)))) (pss_one (ps_ret (pe_tup (pa_cons (pe_xfld (pv 1)) (pa_cons (pe_xfld (pv 1)) pa_nil))))) pss_nil)
    (pss_cons (ps_if (pt_val (pe_callB call_isX (by rfl) B.isinstance (by decide +kernel) (pa_cons (pv 1) (pa_cons (pe_glob (v := .ref CB) (by rfl) hc.gB rfl) pa_nil)))) (pss_one (ps_ret (pe_tup (pa_cons pe_str (pa_cons (pe_xfld (pv 1)) pa_nil))))) pss_nil)
    (pss_one (ps_ret (pe_ifExp (pt_val (pe_callB call_isX (by rfl) B.isinstance (by decide +kernel) (pa_cons (pv 1) (pa_cons (pe_glob (v := .ref CN) (by rfl) hc.gN rfl) pa_nil)))) (pe_tup (pa_cons pe_str (pa_cons (pe_xfld (pv 1)) pa_nil)))
      (pe_ifExp (pt_cmp (pc_isN (pv 1))) pe_non (pe_tup (pa_cons pe_str (pa_cons pe_non pa_nil)))))))))), ?_⟩
  refine ⟨rfl, hcode, hcall _ _ fun H' d s1 hd hxd => ?_⟩
  have fin : ∀ {a p : Addr} {vs : List V}, H' a = none → (upd H' a (XO a (.ref D) (some d))) p = none → vs = [x, y] → Q (.ref p) (upd (upd H' a (XO a (.ref D) (some d))) p (.tup vs)) := fun {a p vs} ha hp e => by
    rw [e]
    have s3 := sm_upd s1 ha (o := XO a (.ref D) (some d))
    exact k _ _ (sm_upd s3 hp) (s3.free hp) upd_same
  cases kd with
  | B hp =>
    refine ⟨true, hc.xB.up, fun _ a na => ?_, fun z => nomatch z⟩
    have had : a ≠ d := fun z => by rw [z, hxd] at na; cases na
    have h1 : (upd H' a (XO a (.ref CB) (some d))) a = some (XO a (.ref CB) (some d)) := upd_same
    have h2 : (upd H' a (XO a (.ref CB) (some d))) d = some (.xd fs) := by rw [upd_ne had.symm]; exact hxd
    refine ⟨_, rfl, ?_⟩
    refine ⟨_, rfl, a, CB, d, fs, CM, _, rfl, h1, h2, hc.xB.E, hc.xB.km, _, rfl, iteF' rfl ?_⟩
    refine ⟨_, rfl, a, CB, d, fs, CB, _, rfl, h1, h2, hc.xB.E, hc.xB.kb, _, rfl, iteT' rfl ?_⟩
    refine ⟨_, rfl, a, CB, d, fs, y, rfl, h1, h2, hc.xB.E, hc.fB, hp, ?_⟩
    exact ⟨(by show (2:Nat) ≤ sizeLine; decide), fun p hp => fin na hp rfl⟩
  | N hp =>
    refine ⟨true, hc.xN.up, fun _ a na => ?_, fun z => nomatch z⟩
    have had : a ≠ d := fun z => by rw [z, hxd] at na; cases na
    have h1 : (upd H' a (XO a (.ref CN) (some d))) a = some (XO a (.ref CN) (some d)) := upd_same
    have h2 : (upd H' a (XO a (.ref CN) (some d))) d = some (.xd fs) := by rw [upd_ne had.symm]; exact hxd
    refine ⟨_, rfl, ?_⟩
    refine ⟨_, rfl, a, CN, d, fs, CM, _, rfl, h1, h2, hc.xN.E, hc.xN.km, _, rfl, iteF' rfl ?_⟩
    refine ⟨_, rfl, a, CN, d, fs, CB, _, rfl, h1, h2, hc.xN.E, hc.xN.kb, _, rfl, iteF' rfl ?_⟩
    refine ⟨_, rfl, a, CN, d, fs, CN, _, rfl, h1, h2, hc.xN.E, hc.xN.kn, _, rfl, iteT' rfl ?_⟩
    refine ⟨_, rfl, a, CN, d, fs, y, rfl, h1, h2, hc.xN.E, hc.fN, hp, ?_⟩
    exact ⟨(by show (2:Nat) ≤ sizeLine; decide), fun p hp => fin na hp rfl⟩
  | M hp1 hp2 =>
    refine ⟨true, hc.xM.up, fun _ a na => ?_, fun z => nomatch z⟩
    have had : a ≠ d := fun z => by rw [z, hxd] at na; cases na
    have h1 : (upd H' a (XO a (.ref CM) (some d))) a = some (XO a (.ref CM) (some d)) := upd_same
    have h2 : (upd H' a (XO a (.ref CM) (some d))) d = some (.xd fs) := by rw [upd_ne had.symm]; exact hxd
    refine ⟨_, rfl, ?_⟩
    refine ⟨_, rfl, a, CM, d, fs, CM, _, rfl, h1, h2, hc.xM.E, hc.xM.km, _, rfl, iteT' rfl ?_⟩
    refine ⟨_, rfl, a, CM, d, fs, x, rfl, h1, h2, hc.xM.E, hc.fW, hp1, ?_⟩
    refine ⟨_, rfl, a, CM, d, fs, y, rfl, h1, h2, hc.xM.E, hc.fM, hp2, ?_⟩
    exact ⟨(by show (2:Nat) ≤ sizeLine; decide), fun p hp => fin na hp rfl⟩
end K6

/-! KG1 -/
set_option Elab.async false
set_option linter.all false
set_option maxRecDepth 100000
set_option maxHeartbeats 4000000
/-! Calls by keywords alone; repr of a tuple; a def whose caller shows nothing. -/
namespace K6
open PySem PySem.Spec L2 KL
def tCallR (n : Nat) (sp : Sp) (tk : TA) : TE := fun σ H Q => tk σ H fun zs H2 => zs.length = n ∧ sp zs.reverse H2 Q E0
section
variable {X : Cx} {k j : Nat} {x : Str} {ps : List Str} {sp : Sp} {p pos : Pos} {e : Expr} {es : List Expr} {kws : List Keyword} {t tk : TA}
/-- f(k = v, ..) -/
theorem pcR (c : CalR X.prog X.w X.K X.mg X.base k x ps sp) (hr : Room j X.A) (hk : k ≤ j) (hg : Gl X x) (hkw : PK X kws tk)
    (hall : (backToKw pos (keywordEach kws X.env)).all (·.1.isSome) = true := by rfl) (hks : (backToKw pos (keywordEach kws X.env)).filterMap (·.1) = ps.reverse := by rfl) (hdb : (x == ("__debug__" : Str)) = false := by decide)
    (hpl : ((backTo pos (starEach [] X.env)).any (·.1) || (backToKw pos (keywordEach kws X.env)).any (·.1.isNone)) = false := by rfl) :
    PE X (.Call (.Name x p) [] kws pos) (tCallR ps.length sp tk) := by
  obtain ⟨f, fd, F, g, kp, b⟩ := c.ex
  refine ⟨fun pins s σ H Q I h => ?_⟩
  refine wpAny_Call_Name_kw (ld_glob I hg g ?_ hdb)
  refine PySem.W.callWith_KW0 (h₀ := X.base) I.ok.mod.kin kp hall (thn (hkw.run pos pins s σ H _ I h) fun ws s2 ⟨zs, H2, I2, rz, l1, q⟩ => ⟨I2.kIn, ?_⟩) hpl
  rw [hks]
  have hl : ws.length = ps.length := rz.length.symm.trans l1
  refine wpAny_call (codeAny_mono (F.run X.A X.stack s2 H2 ⟨[], ps.reverse.zip ws⟩ ws.reverse zs.reverse Q E0 (hr.mono hk) I2.env0 (b s2 ws hl) rz.reverse q) fun r s' hq => ?_)
  cases r with
  | error e => exact passL pins σ H2 s2 e s' I2 hq
  | ok fl =>
    cases fl with
    | ret u => exact I2.after hq
    | next => exact False.elim hq
    | brk => exact False.elim hq
    | cont => exact False.elim hq
end
/-- a def whose promise holds where no text of an object is under way -/
structure CalG (P : Program) (w : World) (K : PySem.W.Frag) (mg : Str → Option Value) (base : Heap) (k : Nat) (x : Str) (ps : List Str) (sp : Sp) : Prop where
  ex : ∃ f : Addr, mg x = some (.ref f) ∧ PySem.W.keepIn K (.ref f) = true ∧ ∀ (A : Around) (outer : List Env) (s : Shared) (H : Hp) (us : List Value) (vs : List V) (Q : VK), A.guards = some [] → Room k A → Env0 P w K mg base A outer s H → Vals vs us → sp vs H Q E0 →
    codeAny (model P w) A (.call (.ref f) ⟨us, []⟩) (CR C8.CX0 outer P w H s Q C8.E0) s
open PyProof.Rows in
theorem calG {P : Program} {w : World} {K : PySem.W.Frag} {mg : Str → Option Value} {base : Heap} {x : Str} {st : Stmt} {N ps : List Str} {k : Nat} {sp : Sp} (D : Df K mg x st) (hb : BindsBy x st ps) (S : FnScope N ps (defScope st)) (len : ∀ vs H Q E, sp vs H Q E → vs.length = ps.length)
    (hbody : ∀ (f : Addr) (cdv : Value) (A : Around) (outer : List Env) (s : Shared) (H : Hp) (vs : List V) (Q : VK), A.guards = some [] → Room k (A.deeper (envOfC x (defScope st) s.heap.objs.size f cdv)) → sp vs H Q E0 →
      ∃ t, PSs (cxOf C8.CX0 P w K mg base N x (defScope st) f cdv A outer s H C8.E0).nox (defBody st) t ∧ t { nx := fun _ H' => Q .non H', rt := Q } (start N vs) H) : CalG P w K mg base (k + 1) x ps sp := by
  obtain ⟨f, fd, F, g⟩ := D.ex
  refine ⟨f, g, F.kp, fun A outer s H us vs Q hg hr e0 r hsp => ?_⟩
  have hl := len _ _ _ _ hsp
  have bd := F.binds hb
  obtain ⟨oc, od, kV, doc, pm, an, cdv, ct, osl, rfl, lk, hcd⟩ := F.ex
  refine LamX.run_ofS lk hcd S hr e0 ?_ r hl fun hr' => ?_
  · have := bd s us (e0.mod.kin.keeps fun b o e => (e0.bs b o e).1) (by rw [List.append_nil]; exact r.length.symm.trans hl)
    rw [List.append_nil] at this; exact this
  · obtain ⟨t, ht, hq⟩ := hbody f cdv A outer s H vs Q hg hr' hsp
    exact ⟨t, ht.nox, hq⟩
section
variable {X : Cx} {k j : Nat} {x : Str} {ps : List Str} {sp : Sp} {p pos : Pos} {e : Expr} {es : List Expr} {t : TA}
theorem pcG (c : CalG X.prog X.w X.K X.mg X.base k x ps sp) (hgd : X.A.guards = some []) (hr : Room j X.A) (hk : k ≤ j) (hg : Gl X x) (ha : PA X (e :: es) t)
    (hdb : (x == ("__debug__" : Str)) = false := by decide) (he : starEach (e :: es) X.env = (false, eval e X.env) :: starEach es X.env := by rfl) (hpl : (backTo pos (starEach es X.env)).any (·.1) = false := by rfl) :
    PE X (.Call (.Name x p) (e :: es) [] pos) (tCall sp [] E0 t) := by
  obtain ⟨f, g, kp, run⟩ := c.ex
  refine ⟨fun pins s σ H Q I h => ?_⟩
  refine wpAny_Call_Name_kw (ld_glob I hg g ?_ hdb)
  refine PySem.W.callWith_K (h₀ := X.base) I.ok.mod.kin kp (thn (ha.run pos pins s σ H _ I h) fun us s1 ⟨vs, H1, I1, r, q⟩ => ⟨I1.kIn, ?_⟩) he hpl
  have q : sp (vs ++ []) H1 Q E0 := q
  rw [List.append_nil] at q
  refine wpAny_call (codeAny_mono (run X.A X.stack s1 H1 us vs Q hgd (hr.mono hk) I1.env0 r q) fun r s' hq => ?_)
  cases r with
  | error e => exact (show False from hq).elim
  | ok fl =>
    cases fl with
    | ret u => exact I1.after hq
    | next => exact False.elim hq
    | brk => exact False.elim hq
    | cont => exact False.elim hq
/-- repr(t) -/
def rRepr (K : PySem.W.Frag) : List V → Hp → VK → Prop := fun xs H Q => ∃ (a : Addr) (d : PyData), xs = [.ref a] ∧ Dp K H (.ref a) d ∧ d.showable = true ∧ d.hasDict = false ∧ d.depth ≤ 60 ∧ d.shown.length ≤ sizeLine ∧ Q (.str d.shown) H
theorem call_reprD (hgd : X.A.guards = some []) (hu : X.A.units + 65 < cLine) : CallR X (.builtin "repr") (rRepr X.K) := by
  intro pins s σ H xs us Q I r h
  obtain ⟨a, d, rfl, hd, hs, hn, hp, hz, q⟩ := h
  cases r with
  | cons rx rr =>
    cases rr
    cases rx
    obtain ⟨as, r1⟩ := Dp.reads I d (.ref a) (.ref a) hd rfl
    exact PySem.repr_of_reads' r1 hs (PyData.noDict_hsm hn) hgd (by omega) (fun _ _ e => e) (fun h' u tk hk => ⟨.str _, H, I.kept (t' := tk) hk, ⟨u, rfl⟩, q⟩) hz
end
end K6

/-! KG2 -/
set_option Elab.async false
set_option linter.all false
set_option maxRecDepth 100000
set_option maxHeartbeats 4000000
namespace K6
open PySem PySem.Spec L2 KL
/-! x not in t, t a tuple of data; the text of a tuple of small ints. -/
section
variable {X : Cx}
def rNotInT (K : PySem.W.Frag) : R2 := fun x y H Q => ∃ d ds, Dp K H x d ∧ Dp K H y (.tuple ds) ∧ SeqAt.shaped d = true ∧ SeqAt.shaped (.tuple ds) = true ∧ Q (.bl (!ds.any fun z => PyData.eqv z d)) H
theorem op_notInT (hu : X.A.units + 65 < cLine) : OpR X (compareOp .NotIn) (rNotInT X.K) := by
  intro pins s σ H x y v u Q I rx ry h
  obtain ⟨d, ds, hd, he, sd, se, q⟩ := h
  obtain ⟨as, r1⟩ := Dp.reads I d x v hd rx
  obtain ⟨bs, r2⟩ := Dp.reads I (.tuple ds) y u he ry
  exact SeqAt.notIn_tuple_reads r2 r1 (SeqAt.canLay_of_shaped se) (SeqAt.canLay_of_shaped sd) (PyProof.Rows.room_in_shaped sd hu) ⟨.bl _, H, I, rfl, q⟩
end
theorem dpAll_TL {K : PySem.W.Frag} {H : Hp} : ∀ {xs : List V} {L : List (List Nat)}, TL H xs L → DpAll K H xs (L.map fun l => vD l)
  | [], [], _ => .nil
  | v :: vs, l :: ls, ⟨⟨a, e, h⟩, t⟩ => by
    subst e
    exact .cons (dp_vN (.of h)) (dpAll_TL t)
theorem vDD_lay : ∀ L : List (List Nat), PyData.canLayAll0 (L.map fun l => vD l) = true
  | [] => by simp [PyData.canLayAll0]
  | x :: l => by
    have h1 := vDD_lay l
    have h2 := SeqAt.canLay_of_shaped (vD_shaped x)
    have h2 : (vD x).canLay0 = true := h2
    show ((vD x).canLay0 && PyData.canLayAll0 (l.map fun l => vD l)) = true
    rw [h1, h2]; rfl
theorem vDD_depth : ∀ L : List (List Nat), PyData.depthAll (L.map fun l => vD l) ≤ 2
  | [] => by simp [PyData.depthAll]
  | x :: l => by
    have := vDD_depth l
    have h2 := vDs_depth x
    show PyData.depthAll (vD x :: l.map fun l => vD l) ≤ 2
    simp only [PyData.depthAll, vD, PyData.depth]
    simp only [vD] at this
    omega
theorem vDD_shaped (L : List (List Nat)) : SeqAt.shaped (.tuple (L.map fun l => vD l)) = true := by
  have h := vDD_depth L
  show ((PyData.tuple (L.map fun l => vD l)).canLay0 && decide ((PyData.tuple (L.map fun l => vD l)).depth ≤ 64)) = true
  rw [Bool.and_eq_true]
  exact ⟨by simp only [PyData.canLay0]; exact vDD_lay L, decide_eq_true (by simp only [PyData.depth]; omega)⟩
theorem any_vDD (L : List (List Nat)) (p : List Nat) (h : p ∈ L) : ((L.map fun l => vD l).any fun z => PyData.eqv z (vD p)) = true := by
  rw [List.any_eq_true]
  exact ⟨vD p, List.mem_map.mpr ⟨p, h, rfl⟩, by rw [eqv_vD]; exact decide_eq_true rfl⟩
theorem int_shown_all : (List.range 512).all (fun n => decide ((toString ((n : Nat) : Int) : Str).length ≤ 10) && decide (((n : Nat) : Int).natAbs.log2 < 1920)) = true := by decide +kernel
theorem int_shown {n : Nat} (h : n < 512) : (toString ((n : Nat) : Int) : Str).length ≤ 10 ∧ ((n : Nat) : Int).natAbs.log2 < 1920 := by
  have := List.all_eq_true.mp int_shown_all n (List.mem_range.mpr h)
  simp only [Bool.and_eq_true, decide_eq_true_eq] at this
  exact this
theorem vDs_show : ∀ {l : List Nat}, (∀ x ∈ l, x < 512) → PyData.showableAll (vDs l) = true ∧ PyData.hasDictAll (vDs l) = false ∧ piled (PyData.shownAll (vDs l)) ≤ 12 * l.length
  | [], _ => by simp [vDs, PyData.showableAll, PyData.hasDictAll, PyData.shownAll, piled]
  | x :: l, h => by
    obtain ⟨h1, h2, h3⟩ := vDs_show (l := l) fun y hy => h y (List.mem_cons_of_mem _ hy)
    obtain ⟨e1, e2⟩ := int_shown (h x List.mem_cons_self)
    refine ⟨?_, ?_, ?_⟩
    · show (decide (((x : Nat) : Int).natAbs.log2 < 1920) && PyData.showableAll (vDs l)) = true
      rw [h1, decide_eq_true e2]; rfl
    · show (false || PyData.hasDictAll (vDs l)) = false
      rw [h2]; rfl
    · show piled ((toString ((x : Nat) : Int) : Str) :: PyData.shownAll (vDs l)) ≤ _
      rw [piled_cons, List.length_cons]; omega
theorem vD_show {l : List Nat} (h : ∀ x ∈ l, x < 512) (hl : l.length ≤ 256) : (vD l).showable = true ∧ (vD l).hasDict = false ∧ (vD l).depth ≤ 60 ∧ (vD l).shown.length ≤ sizeLine := by
  obtain ⟨h1, h2, h3⟩ := vDs_show h
  have h4 := vDs_depth l
  refine ⟨h1, h2, by simp only [vD, PyData.depth]; omega, ?_⟩
  show (tupleText (PyData.shownAll (vDs l))).length ≤ sizeLine
  have := fmt_text (PyData.shownAll (vDs l))
  rw [sizeLine_eq]; omega
end K6

/-! KG3 -/
set_option Elab.async false
set_option linter.all false
set_option maxRecDepth 100000
set_option maxHeartbeats 4000000
namespace K6
open PySem PySem.Spec L2 KL
abbrev lRight : Stmt := top 67
def spRight : Sp := fun vs H Q _ => ∃ (n : Nat) (g : Addr) (gl : List Nat) (b : Nat), vs = [.int n, .ref g, .int b] ∧ H g = some (.lst (vN gl)) ∧ 1 ≤ n ∧ n ≤ 7 ∧ Tab n gl ∧ b < 2 ∧ ∀ H', Same H H' → Q (.bl true) H'
/-- Table's == and != -/
structure EqC (P : Program) (w : World) (K : PySem.W.Frag) (mg : Str → Option Value) (base : Heap) (CT : Addr) : Prop where
  ex : ∃ (f : Addr) (fd : FuncData), FnOk P w K mg base (L2.CX P w) 1 f fd ["self", "other"] (spTabEq CT) ∧ PySem.W.findIn K (.ref CT) "__eq__" = some (some (.ref f)) ∧ PySem.W.isFn K (.ref f) = true ∧ Binds K fd ["self", "other"] []
  ne : PySem.W.findIn K (.ref CT) "__ne__" = some (some (.builtin "object.__ne__"))
theorem op_neC {X : Cx} {CT : Addr} (C : EqC X.prog X.w X.K X.mg X.base CT) (T : TabC X.K X.mg CT) (hr : Room 2 X.A) : OpR X (compareOp .NotEq) (rNeT CT) := by
  obtain ⟨f, fd, F, he, hf, hb⟩ := C.ex
  exact op_neT hr C.ne T F he hf hb
theorem tab_newQ {CT : Addr} {H : Hp} {n : Nat} {g : Addr} {gl : List Nat} {Q : VK} {E : XK} (hg : H g = some (.lst (vN gl))) (h1 : 1 ≤ n) (h8 : n ≤ 8) (T : Tab n gl) (x dx : Addr) (hx : H x = none) (hdx : H dx = none) (hne : dx ≠ x) (k : ∀ H', Same H H' → TabAt CT H' x n gl → Q .non H') :
    spInit CT (.ref x :: ([.int (n : Int), .ref g] ++ [])) (upd (upd H dx (.own x)) x (.ins CT dx [])) Q E := by
  have nx : ∀ {b : Addr} {u : HO}, H b = some u → b ≠ x ∧ b ≠ dx := fun e => ⟨ne_of_none e hx, ne_of_none e hdx⟩
  have up : ∀ {b : Addr} {u : HO}, H b = some u → (upd (upd H dx (.own x)) x (.ins CT dx [])) b = some u := fun e => by rw [upd_ne (nx e).1, upd_ne (nx e).2]; exact e
  exact ⟨x, dx, g, n, gl, rfl, upd_same, up hg, h1, h8, T, fun H' hk hT => k H' (fun b u e => hk b u (nx e).1 (up e)) hT⟩
theorem cut_ij (xs : List V) {i j : Nat} (h1 : i ≤ j) (h2 : j ≤ xs.length) : cutV xs (some (i : Int)) (some (j : Int)) = (xs.drop i).take (j - i) := by
  unfold cutV
  rw [HT.sIx_nat, HT.sIx_nat, Nat.min_eq_left h2, Nat.min_eq_left (Nat.le_trans h1 h2)]
theorem not_whole {b N len : Nat} (hb : b < 2) (hN : 1 ≤ N) (hl : len = 2 * N) : ¬ (HT.sIx len 0 (some ((b * N : Nat) : Int)) = 0 ∧ HT.sIx len len (some ((b * N + N : Nat) : Int)) = len) := by
  rw [HT.sIx_nat, HT.sIx_nat]
  have : b = 0 ∨ b = 1 := by omega
  rcases this with rfl | rfl <;> omega
theorem astray_nil {n b : Nat} {gl G : List Nat} : astray n gl b G = [] ↔ ∀ i, i < 2 ^ n → fn G (b * 2 ^ n + i) = fn gl i + b * 2 ^ n := by
  unfold astray
  rw [List.filterMap_eq_nil_iff]
  constructor
  · intro h i hi
    have := h i (List.mem_range.mpr hi)
    by_cases e : fn G (b * 2 ^ n + i) = fn gl i + b * 2 ^ n
    · exact e
    · rw [if_neg e] at this; cases this
  · intro h i hi
    rw [if_pos (h i (List.mem_range.mp hi))]
section
variable {P : Program} {w : World} {K : PySem.W.Frag} {mg : Str → Option Value} {base : Heap} {CT CB CN CM : Addr}
theorem scRight : FnScope ["_law_lamps", "_law_goals_here", "_law_burns", "_law_table", "_law_many", "_law_told", "_law_kept", "_law_free", "_law_goal", "_law_row"] ["_law_lamps", "_law_goals_here", "_law_burns"] (defScope lRight) := ⟨rfl, rfl, rfl, by decide +kernel, rfl, by decide +kernel, by decide +kernel⟩
theorem ok_right (D : Df K mg "_law_helped_right" lRight) (B : Bt mg) (hRp : mg "repr" = none) (hSo : mg "sorted" = none) (T : TabC K mg CT) (EC : EqC P w K mg base CT) (cM : CalM P w K mg base 5 CT) (cH : CalR P w K mg base 8 "helped" ["table", "burns"] (spHelped K CT CB CN CM)) (cS : CalR P w K mg base 6 "shows_helped" ["table", "burns", "value"] (spShows K CT CB CN CM))
    (cF : Cal P w K mg base 5 "free_choices" (spFreeCh K)) (cP : Cal P w K mg base 3 "_law_parities" (spLPars K)) (cO : Cal P w K mg base 1 "_law_is_one" (spIsOne K)) (cW : Cal P w K mg base 1 "_law_weight" spWt) :
    CalG P w K mg base 9 "_law_helped_right" ["_law_lamps", "_law_goals_here", "_law_burns"] spRight := by
  refine calG (ps := ["_law_lamps", "_law_goals_here", "_law_burns"]) D (fun _ _ _ _ _ _ us hl => match us, hl with | [_, _, _], _ => rfl) scRight (fun vs H Q E h => ?_) (fun f cdv A outer s H vs Q hgd hr h => ?_)
  · obtain ⟨_, _, _, _, rfl, _⟩ := h; rfl
  · obtain ⟨n, g, gl, b, rfl, hg, h1, h7, Tb, hb, k⟩ := h
    have hu64 := hr.units
    have hu65 : (A.deeper (PyProof.Rows.envOfC "_law_helped_right" (defScope lRight) s.heap.objs.size f cdv)).units + 65 < cLine := by have := hr.un; omega
    refine ⟨_, pss_cons (ps_asg (pe_tup (pa_cons (pcM cM hr (by decide) (by rfl) (pa_cons (pv 0) (pa_cons (pv 1) pa_nil))) (pa_cons (pe_op op_shl pe_int (pv 0)) pa_nil))) (pg_tup rfl (pgs_cons (pg_name (i := 3) scRight.nd rfl (Or.inl rfl)) (pgs_cons (pg_name (i := 4) scRight.nd rfl (Or.inr rfl)) pgs_nil))))
      (pss_cons (ps_set (i := 5) scRight.nd rfl (Or.inl rfl) (pc cH.toCal hr (by decide) (by rfl) (pa_cons (pv 3) (pa_cons (pv 2) pa_nil))))
      (pss_cons (ps_if (pw_or (pt_not (pt_val (pe_callB call_isi (by rfl) B.isinstance (by decide +kernel) (pa_cons (pv 5) (pa_cons (pe_glob (v := .ref CT) (by rfl) T.gC rfl) pa_nil)))))
          (pw_or (pt_cmpR op_ne (pe_fld (pv 5) rfl) (pe_op op_add (pv 0) pe_int) (nomark _))
          (pw_or1 (pt_cmpR (op_neC EC T (hr.mono (by decide))) (pcR cH hr (by decide) (by rfl) (pk_cons (pv 2) (pk_cons (pcM cM hr (by decide) (by rfl) (pa_cons (pv 0) (pa_cons (pe_callTy call_list_of (by rfl) B.list (by decide +kernel) (pa_cons (pv 1) pa_nil)) pa_nil))) pk_nil))) (pv 5) (nomark _))))).pt (pss_one (ps_ret pe_bl)) pss_nil)
      (pss_cons (ps_set (i := 6) scRight.nd rfl (Or.inl rfl) (pe_slice sl_tup (pe_fld (pv 5) rfl) (po_some (pe_op op_mul (pv 2) (pv 4))) (po_some (pe_op op_add (pe_op op_mul (pv 2) (pv 4)) (pv 4)))))
      (pss_cons (ps_if (pt_cmpR op_ne (pe_callB (call_reprD hgd hu65) (by rfl) hRp (by decide +kernel) (pa_cons (pv 6) pa_nil)) (pe_callB (call_reprD hgd hu65) (by rfl) hRp (by decide +kernel) (pa_cons (pe_callTy cr_tupOf (by rfl) B.tuple (by decide +kernel) (pa_cons (pe_lc (own := [("_law_goal", 8)]) (g := gName 8) (tt := tYes) rfl scRight.nd (pi_list (pv 1))
            (blkOk_by (own := [("_law_goal", 8)]) (N := ["_law_lamps", "_law_goals_here", "_law_burns", "_law_table", "_law_many", "_law_told", "_law_kept", "_law_free", "_law_goal", "_law_row"]) (sc := defScope lRight) (by decide +kernel)) (fun _ _ _ _ _ => pg_name (i := 8) scRight.nd rfl (Or.inl rfl)) (fun _ _ _ _ _ => pts_nil)
            (fun _ _ _ _ _ => pe_op op_add (pv 8) (pe_op op_mul (pv 2) (pv 4)))) pa_nil)) pa_nil)) (nomark _)) (pss_one (ps_ret pe_bl)) pss_nil)
      (pss_cons (ps_set (i := 7) scRight.nd rfl (Or.inr rfl) (pe_lc (own := [("_law_goal", 8)]) (g := gName 8) (tt := tYes) rfl scRight.nd (pi_tup (pe_slice sl_tup (pe_fld (pv 5) rfl) (po_some (pe_op op_sub (pv 4) (pe_op op_mul (pv 2) (pv 4)))) (po_some (pe_op op_sub (pe_op op_mul pe_int (pv 4)) (pe_op op_mul (pv 2) (pv 4))))))
            (blkOk_by (own := [("_law_goal", 8)]) (N := ["_law_lamps", "_law_goals_here", "_law_burns", "_law_table", "_law_many", "_law_told", "_law_kept", "_law_free", "_law_goal", "_law_row"]) (sc := defScope lRight) (by decide +kernel)) (fun _ _ _ _ _ => pg_name (i := 8) scRight.nd rfl (Or.inl rfl)) (fun _ _ _ _ _ => pts_nil)
            (fun _ _ _ _ _ => pe_op op_sub (pv 8) (pe_op op_mul (pe_op op_sub pe_int (pv 2)) (pv 4)))))
      (pss_cons (ps_if (pw_or (pt_cmpR (op_neD hr.units) (pe_callB cr_sortedI (by rfl) hSo (by decide +kernel) (pa_cons (pv 7) pa_nil)) (pe_listRg rfl (by rfl) B.list (prg_1 (by rfl) B.range (pv 4))) (nomark _))
          (pw_or1 (pt_cmpR (op_neD hr.units) (pe_lc (own := [("_law_row", 9)]) (g := gName 9) (te := tVar 9) rfl scRight.nd (pi_range1 (by rfl) B.range (pa_cons (pv 4) pa_nil))
            (blkOk_by (own := [("_law_row", 9)]) (N := ["_law_lamps", "_law_goals_here", "_law_burns", "_law_table", "_law_many", "_law_told", "_law_kept", "_law_free", "_law_goal", "_law_row"]) (sc := defScope lRight) (by decide +kernel)) (fun _ _ _ _ _ => pg_name (i := 9) scRight.nd rfl (Or.inl rfl))
            (fun _ _ _ _ _ => pts_one (pt_cmpR op_ne (pc cW hr (by decide) (by rfl) (pa_cons (pe_ix (r := rIxL K) ix_list (pv 7) (pv 9) (fun _ _ => rfl)) pa_nil)) (pc cW hr (by decide) (by rfl) (pa_cons (pv 9) pa_nil)) (nomark _)))
            (fun _ _ _ _ _ => pv 9)) (pe_lst pa_nil) (nomark _)))).pt (pss_one (ps_ret pe_bl)) pss_nil)
      (pss_cons (ps_if (pw_or (pt_not (pt_val (pc cO hr (by decide) (by rfl) (pa_cons (pc cP hr (by decide) (by rfl) (pa_cons (pe_op op_add (pv 0) pe_int) (pa_cons (pe_fld (pv 5) rfl) pa_nil))) pa_nil))))
          (pw_or1 (pt_cmpR (op_notInT hu65) (pc cP hr (by decide) (by rfl) (pa_cons (pv 0) (pa_cons (pv 7) pa_nil))) (pc cF hr (by decide) (by rfl) (pa_cons (pc cP hr (by decide) (by rfl) (pa_cons (pv 0) (pa_cons (pv 1) pa_nil))) (pa_cons (pv 2) pa_nil))) rfl))).pt (pss_one (ps_ret pe_bl)) pss_nil)
      (pss_one (ps_ret (pe_and (pe_cmpR op_isBl (pc cS.toCal hr (by decide) (by rfl) (pa_cons (pv 3) (pa_cons (pv 2) (pa_cons (pv 5) pa_nil)))) pe_bl (nomark _))
        (pe_and (pe_cmpR op_isBl (pcR cS hr (by decide) (by rfl) (pk_cons (pv 5) (pk_cons (pv 2) (pk_cons (pv 3) pk_nil)))) pe_bl (nomark _))
        (pe_one (pe_cmpR op_eq (pc cS.toCal hr (by decide) (by rfl) (pa_cons (pv 3) (pa_cons (pe_op op_sub pe_int (pv 2)) (pa_cons (pv 5) pa_nil)))) (pe_cmpR (op_eqD hr.units) (pv 7) (pv 1) (nomark _)) (nomark _)))))))))))))), ?_⟩
    have hp7 := pow7 h7
    have e4 : some (some (V.int ((1 : Int) * 2 ^ ((n : Nat) : Int).toNat))) = some (some (V.int ((2 ^ n : Nat) : Int))) := congrArg (fun z => some (some (V.int z))) (shl1 (n := n) (by omega))
    refine ⟨_, rfl, _, rfl, ?_⟩
    intro p dx0 hp hdx0 hne0
    refine tab_newQ hg h1 (by omega) Tb p dx0 hp hdx0 hne0 fun H1 s1 hT => ⟨rfl, ?_⟩
    refine ⟨_, rfl, _, _, rfl, rfl, ⟨Int.natCast_nonneg _, by omega, by decide⟩, by show (2 : Nat) ≤ sizeLine; decide, fun t0 ht0 => ?_⟩
    have s2 := sm_upd s1 ht0 (o := .tup [.ref p, .int ((1 : Int) * 2 ^ ((n : Nat) : Int).toNat)])
    have s12 := sm_upd (Same.refl H1) ht0 (o := .tup [.ref p, .int ((1 : Int) * 2 ^ ((n : Nat) : Int).toNat)])
    have hT2 := hT.mono s12
    refine ⟨t0, _, rfl, .of upd_same, rfl, _, _, rfl, _, _, rfl, rfl, ?_⟩
    generalize (upd H1 t0 (.tup [.ref p, .int ((1 : Int) * 2 ^ ((n : Nat) : Int).toNat)])) = H2 at s2 s12 hT2
    refine ⟨_, rfl, _, rfl, .ref p, .int (b : Int), rfl, .inl ⟨p, n, gl, b, rfl, rfl, hT2, h1, h7, Tb, hb, fun H3 q s3 hq hQ => ?_⟩⟩
    have st := Same.trans s2 s3
    have hT3 := hT2.mono s3
    have hg3 := st _ _ hg
    obtain ⟨tq, ty, kt⟩ := tyt_tab T hQ
    have hQ' := hQ
    obtain ⟨dy, t2, gs, q1, q2, q3, q4⟩ := hQ
    refine ⟨_, rfl, .ref q, _, tq, _, _, rfl, .own CT, ty, kt, _, rfl, iteF ?_⟩
    refine ⟨_, rfl, q, CT, dy, gs, _, rfl, q1, T.cl, T.nL, q2, _, rfl, _, _, rfl, rfl, rfl, _, rfl, iteF' (by simp) ?_⟩
    refine ⟨_, rfl, _, rfl, _, rfl, g, _, rfl, .inl (.of hg3), fun g2 hg2 => ?_⟩
    intro p4 dx4 hp4 hdx4 hne4
    have s4 := sm_upd (Same.refl H3) hg2 (o := .lst (vN gl))
    refine tab_newQ upd_same h1 (by omega) Tb p4 dx4 hp4 hdx4 hne4 fun H4 s5 hT4 => ⟨rfl, ?_⟩
    have s45 := Same.trans s4 s5
    refine ⟨rfl, .ref p4, .int (b : Int), rfl, .inl ⟨p4, n, gl, b, rfl, rfl, hT4, h1, h7, Tb, hb, fun H5 q5 s6 hq5 hQ5 => ?_⟩⟩
    have s46 := Same.trans s45 s6
    refine ⟨_, rfl, q5, q, n + 1, n + 1, _, _, rfl, rfl, hQ5, hQ'.mono s46, _, rfl, iteF' (by simp) ?_⟩
    have hfr : Tab n (gws n (c0 (pars n (fn gl)) b)) := gws_tab (by omega) (c0_ok (by rw [pars_len]; omega) (pars_bit _ _) hb).2.2.1
    have hpf : pars n (fn (gws n (c0 (pars n (fn gl)) b))) = c0 (pars n (fn gl)) b := gws_pars (by omega) (c0_ok (by rw [pars_len]; omega) (pars_bit _ _) hb).2.2.1 (by rw [(c0_ok (by rw [pars_len]; omega) (pars_bit _ _) hb).2.1, pars_len])
    have hGd : hgl n gl b = KL.hg n gl (gws n (c0 (pars n (fn gl)) b)) b := rfl
    generalize gws n (c0 (pars n (fn gl)) b) = fr at hfr hpf hGd
    have hGl : (hgl n gl b).length = 2 * 2 ^ n := by rw [hGd]; exact hg_len Tb hfr hb
    have hTG : Tab (n + 1) (hgl n gl b) := by rw [hGd]; exact hg_tab (by omega) Tb hfr
    have hkept : ((hgl n gl b).drop (b * 2 ^ n)).take (2 ^ n) = gl.map fun x => x + b * 2 ^ n := by rw [hGd]; exact hg_kept Tb hfr hb
    have hfree : ((hgl n gl b).drop ((1 - b) * 2 ^ n)).take (2 ^ n) = fr.map fun x => x + (1 - b) * 2 ^ n := by rw [hGd]; exact hg_free Tb hfr hb
    have hN1 : 1 ≤ 2 ^ n := Nat.one_le_two_pow
    have s35 := s46
    have q1' := s35 _ _ q1
    have q4' := s35 _ _ q4
    have hg5 := s35 _ _ hg3
    have hT5 := hT3.mono s35
    have hQ5' := hQ'.mono s35
    have s05 := Same.trans st s35
    have cm : ∀ {x y : Nat}, x ≤ 4 → CMul (x : Int) (y : Int) := fun h => .inl ⟨by omega, by omega⟩
    have em : (b : Int) * ((2 ^ n : Nat) : Int) = ((b * 2 ^ n : Nat) : Int) := (Int.natCast_mul ..).symm
    have em2 : (b : Int) * ((2 ^ n : Nat) : Int) + ((2 ^ n : Nat) : Int) = ((b * 2 ^ n + 2 ^ n : Nat) : Int) := by rw [em]; exact (Int.natCast_add ..).symm
    refine ⟨_, rfl, q, CT, dy, gs, _, rfl, q1', T.cl, T.nG, q3, _, rfl, _, e4, _, _, rfl, rfl, cm (by omega), _, congrArg V.int em, _, rfl, _, e4, _, _, rfl, rfl, cm (by omega), _, e4, _, _, rfl, rfl, _, congrArg V.int em2, t2, _, rfl, .of q4', ?_, fun k6 hk6 => ?_⟩
    · exact not_whole hb hN1 (by rw [vN_len]; exact hGl)
    have hbN : b * 2 ^ n ≤ 2 ^ n := by
      have : b = 0 ∨ b = 1 := by omega
      rcases this with rfl | rfl <;> omega
    have ecut : cutV (vN (hgl n gl b)) (some ((b * 2 ^ n : Nat) : Int)) (some ((b * 2 ^ n + 2 ^ n : Nat) : Int)) = vN (gl.map fun x => x + b * 2 ^ n) := by
      rw [cut_ij _ (by omega) (by rw [vN_len, hGl]; omega), Nat.add_sub_cancel_left, ← hkept]
      show List.take _ (List.drop _ (List.map _ _)) = List.map _ _
      rw [List.map_take, List.map_drop]
    rw [ecut]
    have hklt : ∀ x ∈ gl.map (fun x => x + b * 2 ^ n), x < 512 := fun x hx => by
      obtain ⟨y, hy, rfl⟩ := List.mem_map.mp hx
      have := Tb.lt hy
      omega
    have hkl : (gl.map fun x => x + b * 2 ^ n).length = 2 ^ n := by rw [List.length_map, Tb.len]
    have hkg : ∀ {j y : Nat}, gl[j]? = some y → (gl.map fun x => x + b * 2 ^ n)[j]? = some (y + b * 2 ^ n) := fun e => by rw [List.getElem?_map, e]; rfl
    have hsh := vD_show hklt (by omega)
    clear ecut hkept
    generalize (gl.map fun x => x + b * 2 ^ n) = kl at hklt hkl hkg hsh
    have s6k := sm_upd (Same.refl H5) hk6 (o := .tup (vN kl))
    have h6k : (upd H5 k6 (.tup (vN kl))) k6 = some (.tup (vN kl)) := upd_same
    generalize (upd H5 k6 (.tup (vN kl))) = H6 at s6k h6k
    have hg6 := s6k _ _ hg5
    refine ⟨_, rfl, k6, vD kl, rfl, dp_vN (.of h6k), hsh.1, hsh.2.1, hsh.2.2.1, hsh.2.2.2, ?_⟩
    refine ⟨_, rfl, g, rfl, ⟨_, .of hg6⟩, fun D7 hD7 => ?_⟩
    refine lc_map (walk_list (xs := vN gl)) (vN kl) (by rw [vN_len, vN_len, hkl, Tb.len]) (by rw [vN_len]; have := Tb.len; omega) hD7 (fun H' s => .of (s _ _ hg6)) ?_ ?_
    · rintro j x H7 H7' R hj s7 ⟨rfl, hx⟩ kR
      obtain ⟨y, hy, rfl⟩ := vN_get hx
      refine ⟨rfl, _, rfl, _, rfl, _, e4, _, _, rfl, rfl, cm (by omega), _, _, rfl, rfl, kR _ _ (Same.refl _) ?_⟩
      rw [vN_at (hkg hy), Int.natCast_add, ← em]
    intro H7 s7 hd7
    refine ⟨D7, _, rfl, .inl ⟨.of hd7, fun p7 hp7 => ?_⟩⟩
    refine ⟨p7, vD kl, rfl, dp_vN (.of upd_same), hsh.1, hsh.2.1, hsh.2.2.1, hsh.2.2.2, rfl, _, rfl, iteF' (by simp) ?_⟩
    have s58 := Same.trans (Same.trans s6k s7) (sm_upd (Same.refl H7) hp7 (o := .tup (vN kl)))
    generalize (upd H7 p7 (.tup (vN kl))) = H8 at s58
    have elo : ((2 ^ n : Nat) : Int) - (b : Int) * ((2 ^ n : Nat) : Int) = (((1 - b) * 2 ^ n : Nat) : Int) := by
      have : b = 0 ∨ b = 1 := by omega
      rcases this with rfl | rfl <;> simp
    have ehi : (2 : Int) * ((2 ^ n : Nat) : Int) - (b : Int) * ((2 ^ n : Nat) : Int) = (((1 - b) * 2 ^ n + 2 ^ n : Nat) : Int) := by
      have : b = 0 ∨ b = 1 := by omega
      rcases this with rfl | rfl
      · simp; omega
      · simp; omega
    have hb1N : (1 - b) * 2 ^ n ≤ 2 ^ n := by
      have : b = 0 ∨ b = 1 := by omega
      rcases this with rfl | rfl <;> omega
    have cm2 : CMul (2 : Int) ((2 ^ n : Nat) : Int) := .inl ⟨by decide, by decide⟩
    have cm3 : CMul ((1 : Int) - (b : Int)) ((2 ^ n : Nat) : Int) := .inl ⟨by omega, by omega⟩
    refine ⟨_, rfl, q, CT, dy, gs, _, rfl, s58 _ _ q1', T.cl, T.nG, q3, _, e4, _, rfl, _, e4, _, _, rfl, rfl, cm (by omega), _, _, rfl, rfl, _, congrArg V.int elo, _, e4, _, _, rfl, rfl, cm2, _, rfl, _, e4, _, _, rfl, rfl, cm (by omega), _, _, rfl, rfl, _, congrArg V.int ehi, t2, _, rfl, .of (s58 _ _ q4'), ?_, fun k9 hk9 => ?_⟩
    · exact not_whole (by omega) hN1 (by rw [vN_len]; exact hGl)
    have ecut2 : cutV (vN (hgl n gl b)) (some (((1 - b) * 2 ^ n : Nat) : Int)) (some (((1 - b) * 2 ^ n + 2 ^ n : Nat) : Int)) = vN (fr.map fun x => x + (1 - b) * 2 ^ n) := by
      rw [cut_ij _ (by omega) (by rw [vN_len, hGl]; omega), Nat.add_sub_cancel_left, ← hfree]
      show List.take _ (List.drop _ (List.map _ _)) = List.map _ _
      rw [List.map_take, List.map_drop]
    rw [ecut2]
    have s8k := sm_upd (Same.refl H8) hk9 (o := .tup (vN (fr.map fun x => x + (1 - b) * 2 ^ n)))
    have h9k : (upd H8 k9 (.tup (vN (fr.map fun x => x + (1 - b) * 2 ^ n)))) k9 = some (.tup (vN (fr.map fun x => x + (1 - b) * 2 ^ n))) := upd_same
    generalize (upd H8 k9 (.tup (vN (fr.map fun x => x + (1 - b) * 2 ^ n)))) = H9 at s8k h9k
    refine ⟨k9, rfl, ⟨_, .of h9k⟩, fun F hF => ?_⟩
    have hfrl := hfr.len
    refine lc_map (walk_tup (xs := vN (fr.map fun x => x + (1 - b) * 2 ^ n))) (vN fr) (by rw [vN_len, vN_len, List.length_map]) (by rw [vN_len, List.length_map]; omega) hF (fun H' s => .of (s _ _ h9k)) ?_ ?_
    · rintro j x H10 H10' R hj s10 ⟨rfl, hx⟩ kR
      obtain ⟨z, hz, rfl⟩ := vN_get hx
      rw [List.getElem?_map] at hz
      obtain ⟨y, hy, rfl⟩ : ∃ y, fr[j]? = some y ∧ z = y + (1 - b) * 2 ^ n := by
        cases e : fr[j]? with
        | none => rw [e] at hz; cases hz
        | some y => rw [e] at hz; exact ⟨y, rfl, (Option.some.inj hz).symm⟩
      refine ⟨rfl, _, rfl, _, rfl, _, _, rfl, rfl, _, e4, _, _, rfl, rfl, cm3, _, _, rfl, rfl, kR _ _ (Same.refl _) ?_⟩
      rw [vN_at hy]
      have e1 : ((y + (1 - b) * 2 ^ n : Nat) : Int) - ((1 : Int) - (b : Int)) * ((2 ^ n : Nat) : Int) = (y : Int) := by
        have : b = 0 ∨ b = 1 := by omega
        rcases this with rfl | rfl
        · simp
        · simp
      exact congrArg (fun z => some (V.int z)) e1.symm
    intro H10 s10 hF10
    have s5F := Same.trans (Same.trans s58 s8k) s10
    have h62 := in62 (N := 2 ^ n) (by omega)
    refine ⟨_, rfl, F, vI fr, rfl, .of (by rw [hF10, vN_vI]), fun ns' p11 hperm hpw hp11 => ?_⟩
    have ens : ns' = (List.range (2 ^ n)).map Int.ofNat := sorted_range hfr.perm hperm hpw
    have ens' : ns'.map V.int = vN (List.range (2 ^ n)) := by rw [ens, vN, List.map_map]; rfl
    rw [ens']
    have s11 := sm_upd (Same.refl H10) hp11 (o := .lst (vN (List.range (2 ^ n))))
    have h11 : (upd H10 p11 (.lst (vN (List.range (2 ^ n))))) p11 = some (.lst (vN (List.range (2 ^ n)))) := upd_same
    generalize (upd H10 p11 (.lst (vN (List.range (2 ^ n))))) = H11 at s11 h11
    refine ⟨_, e4, _, rfl, RgOk.of_le (by decide) (by omega) (by decide) (Int.natCast_nonneg _), fun p12 hp12 => ?_⟩
    rw [rgV_vN]
    have s12' := sm_upd (Same.refl H11) hp12 (o := .lst (vN (List.range (2 ^ n))))
    refine ⟨.list (vDs (List.range (2 ^ n))), .list (vDs (List.range (2 ^ n))), dp_vNL (.of (s12' _ _ h11)), dp_vNL (.of upd_same), vDL_shaped _, vDL_shaped _, _, rfl, iteF' (by rw [eqv_vDL]; simp) ?_⟩
    have s10b := Same.trans s11 s12'
    generalize (upd H11 p12 (.lst (vN (List.range (2 ^ n))))) = H12 at s12' s10b
    have hF12 := s10b _ _ hF10
    refine ⟨_, e4, _, rfl, h62.1, h62.2, fun D13 hD13 => ?_⟩
    rw [Int.toNat_natCast]
    refine lc_it walk_range (fun i H' => Same H12 H' ∧ H' D13 = some (.lst [])) ⟨sm_upd (Same.refl _) hD13, upd_same⟩ (fun _ _ _ _ => trivial) ?_ ?_
    · rintro j x H13 H13' hj ⟨s13, hd13⟩ ⟨rfl, rfl⟩
      have ej : (0 : Int) + (j : Int) = (j : Int) := Int.zero_add _
      have hy := hfr.get hj
      have hylt := hfr.P.lt j hj
      have hyw := hfr.P.wt j hj
      refine ⟨rfl, _, rfl, _, rfl, F, _, (j : Int), .int (fn fr j : Int), rfl, congrArg V.int ej, .of (s13 _ _ hF12), atI_nat (vN_at hy), fn fr j, rfl, by omega, _, rfl, j, congrArg (fun z => [V.int z]) ej, by omega, rfl, _, rfl, iteF' (by rw [hyw]; simp) ?_⟩
      exact ⟨s13, hd13⟩
    rintro H13 ⟨s13, hd13⟩
    refine ⟨by decide, fun e14 he14 => ?_⟩
    have s14 := sm_upd (Same.refl H13) he14 (o := .lst [])
    refine ⟨.list (vDs []), .list (vDs []), dp_vNL (l := []) (.of (s14 _ _ hd13)), dp_vNL (l := []) (.of upd_same), vDL_shaped _, vDL_shaped _, _, rfl, iteF' (by rw [eqv_vDL]; simp) ?_⟩
    have s5G := Same.trans s5F (Same.trans (Same.trans s10b s13) s14)
    generalize (upd H13 e14 (.lst [])) = H14 at s14 s5G
    have hc0 := c0_ok (p := pars n (fn gl)) (b := b) (by rw [pars_len]; omega) (pars_bit _ _) hb
    have hmix : pars (n + 1) (fn (hgl n gl b)) = mixed (pars n (fn gl)) (c0 (pars n (fn gl)) b) b := by rw [hGd, pars_hg (by omega) h1 Tb hfr, hpf]
    have hone : isOne (pars (n + 1) (fn (hgl n gl b))) = true := by rw [hmix]; exact hc0.2.2.2.1
    have hhan : hands (pars (n + 1) (fn (hgl n gl b))) = 1 := by rw [hmix]; exact hc0.2.2.2.2
    have hmem : pars n (fn fr) ∈ ch (pars n (fn gl)) b := by
      rw [hpf]
      obtain ⟨t, e⟩ := hc0.1
      rw [e]; exact List.mem_cons_self
    have ha1 : astray n gl b (hgl n gl b) = [] := astray_nil.mpr fun i hi => by rw [hGd]; exact fn_kept Tb hfr hb hi
    have ha2 : decide (astray n gl (1 - b) (hgl n gl b) = []) = decide (fr = gl) := by
      refine decide_eq_decide.mpr ⟨fun h => tab_ext Tb hfr fun i hi => ?_, fun h => astray_nil.mpr fun i hi => ?_⟩
      · have := astray_nil.mp h i hi
        rw [hGd, fn_free Tb hfr hb hi] at this
        omega
      · rw [hGd, fn_free Tb hfr hb hi, h]
    have hs : (decide (astray n gl b (hgl n gl b) = []) && decide (hands (pars (n + 1) (fn (hgl n gl b))) = 1)) = true := by rw [ha1, hhan]; rfl
    have hFH := (Same.trans s10b (Same.trans s13 s14)) _ _ hF10
    have hQG := hQ5'.mono s5G
    have hTG' := hT5.mono s5G
    refine ⟨_, rfl, _, _, rfl, rfl, _, rfl, q, CT, dy, gs, _, rfl, s5G _ _ q1', T.cl, T.nG, q3, n + 1, t2, _, rfl, .inr (s5G _ _ q4'), by omega, by omega, hTG, fun H15 p15 s15 hp15 h15 => ?_⟩
    refine ⟨p15, _, rfl, h15, by rw [pars_len]; omega, fun H16 s16 => ⟨true, congrArg V.bl hone, iteF ?_⟩⟩
    have sG6 := Same.trans s15 s16
    refine ⟨_, rfl, _, rfl, n, F, fr, rfl, .inl (sG6 _ _ hFH), h1, by omega, hfr, fun H17 p17 s17 hp17 h17 => ?_⟩
    refine ⟨_, rfl, _, rfl, n, g, gl, rfl, .inl (s17 _ _ (sG6 _ _ (s5G _ _ hg5))), h1, by omega, Tb, fun H18 p18 s18 hp18 h18 => ?_⟩
    refine ⟨_, rfl, p18, _, b, rfl, h18, by rw [pars_len]; omega, pars_bit _ _, hb, fun H19 q19 xs s19 hq19 hx19 hTL => ?_⟩
    refine ⟨vD (pars n (fn fr)), (ch (pars n (fn gl)) b).map (fun l => vD l), dp_vN (.of (s19 _ _ (s18 _ _ h17))), .tup (.of hx19) (dpAll_TL hTL), vD_shaped _, vDD_shaped _, _, rfl, iteF' (by rw [any_vDD _ _ hmem]; rfl) ?_⟩
    have sG9 := Same.trans sG6 (Same.trans s17 (Same.trans s18 s19))
    have hQ9 := hQG.mono sG9
    have hT9 := hTG'.mono sG9
    have hF9 := sG9 _ _ hFH
    have hg9 := sG9 _ _ (s5G _ _ hg5)
    have s09 := Same.trans s05 (Same.trans s5G sG9)
    refine ⟨_, rfl, _, rfl, _, rfl, .ref p, .int (b : Int), .ref q, rfl, .inl ⟨p, q, n, gl, _, b, rfl, rfl, rfl, hT9, h1, h7, Tb.len, hb, hQ9, hTG, fun H20 s20 => ?_⟩⟩
    refine ⟨true, true, congrArg V.bl hs, rfl, true, rfl, iteT' rfl ?_⟩
    refine ⟨_, rfl, _, rfl, _, rfl, rfl, .ref p, .int (b : Int), .ref q, rfl, .inl ⟨p, q, n, gl, _, b, rfl, rfl, rfl, hT9.mono s20, h1, h7, Tb.len, hb, hQ9.mono s20, hTG, fun H21 s21 => ?_⟩⟩
    refine ⟨true, true, congrArg V.bl hs, rfl, true, rfl, iteT' rfl ?_⟩
    have s921 := Same.trans s20 s21
    have e1b : ((1 : Int) - (b : Int)) = ((1 - b : Nat) : Int) := by omega
    refine ⟨_, rfl, _, rfl, _, _, rfl, rfl, _, rfl, .ref p, .int ((1 - b : Nat) : Int), .ref q, congrArg (fun z => [V.ref p, V.int z, V.ref q]) e1b, .inl ⟨p, q, n, gl, _, 1 - b, rfl, rfl, rfl, hT9.mono s921, h1, h7, Tb.len, by omega, hQ9.mono s921, hTG, fun H22 s22 => ?_⟩⟩
    have s922 := Same.trans s921 s22
    refine ⟨_, rfl, _, rfl, .list (vDs fr), .list (vDs gl), dp_vNL (.of (s922 _ _ hF9)), dp_vNL (.of (s922 _ _ hg9)), vDL_shaped _, vDL_shaped _, rfl, ?_⟩
    have kk : ∀ v, v = V.bl true → Q v H22 := fun v e => e ▸ k _ (Same.trans s09 s922)
    refine kk _ (congrArg V.bl (decide_eq_true ?_))
    rw [ha2, hhan, eqv_vDL]
    simp
end
end K6

/-! KG4 -/
set_option Elab.async false
set_option linter.all false
set_option maxRecDepth 100000
set_option maxHeartbeats 4000000
namespace K6
open PySem PySem.Spec L2 KL
abbrev lLaw : Stmt := top 68
abbrev lawN : List Str := ["_law_script", "_law_harbour_here", "_law_lamps", "_law_goals_here", "_law_burns", "_law_none", "_law_bad", "_law_heard_here"]
theorem scLaw : FnScope lawN ["_law_script"] (defScope lLaw) := ⟨rfl, rfl, rfl, by decide +kernel, rfl, by decide +kernel, by decide +kernel⟩
theorem TabS.bh {h : Addr} {H H' : Hp} {P : Addr} {q : Str} (t : LamX.TabS H P q) (b : Bh h H H') (hh : ∃ xs, H h = some (.lst xs)) : LamX.TabS H' P q := by
  obtain ⟨xs, hh⟩ := hh
  obtain ⟨ps, h1, h2, h3⟩ := t
  refine ⟨ps, b _ _ (fun z => by rw [z, hh] at h1; cases h1) h1, h2, fun pos cv hc => ?_⟩
  obtain ⟨c, e1, e2⟩ := h3 pos cv hc
  exact ⟨c, e1, b _ _ (fun z => by rw [z, hh] at e2; cases e2) e2⟩
/-- the first four things that are no table -/
def NV (H : Hp) (x : V) : Prop := x = .non ∨ x = .int 5 ∨ (∃ a xs, x = .ref a ∧ H a = some (.lst xs)) ∨ (∃ z, x = .str z) ∨ ∃ b, x = .bl b
/-- no 0 and no 1 -/
def BV (H : Hp) (x : V) : Prop := x = .int 2 ∨ x = .int (-1) ∨ (∃ b, x = .bl b) ∨ x = .non ∨ (∃ z, x = .str z) ∨ (∃ a xs, x = .ref a ∧ H a = some (.lst xs)) ∨ ∃ a, x = .ref a ∧ H a = some (.dK [])
theorem NV.ext {H H' : Hp} {x : V} (h : NV H x) (e : LamX.ExtN H H') : NV H' x := by
  rcases h with h | h | ⟨a, xs, h1, h2⟩ | h | h
  · exact .inl h
  · exact .inr (.inl h)
  · exact .inr (.inr (.inl ⟨a, xs, h1, e _ _ h2 (fun _ z => by cases z)⟩))
  · exact .inr (.inr (.inr (.inl h)))
  · exact .inr (.inr (.inr (.inr h)))
theorem BV.ext {H H' : Hp} {x : V} (h : BV H x) (e : LamX.ExtN H H') : BV H' x := by
  rcases h with h | h | h | h | h | ⟨a, xs, h1, h2⟩ | ⟨a, h1, h2⟩
  · exact .inl h
  · exact .inr (.inl h)
  · exact .inr (.inr (.inl h))
  · exact .inr (.inr (.inr (.inl h)))
  · exact .inr (.inr (.inr (.inr (.inl h))))
  · exact .inr (.inr (.inr (.inr (.inr (.inl ⟨a, xs, h1, e _ _ h2 (fun _ z => by cases z)⟩)))))
  · exact .inr (.inr (.inr (.inr (.inr (.inr ⟨a, h1, e _ _ h2 (fun _ z => by cases z)⟩)))))
theorem NV.ty {K : PySem.W.Frag} {mg : Str → Option Value} {CT : Addr} {H : Hp} {x : V} (T : TabC K mg CT) (h : NV H x) : TyT K CT H x false := by
  rcases h with rfl | rfl | ⟨a, xs, rfl, h2⟩ | ⟨z, rfl⟩ | ⟨b, rfl⟩
  · exact tyt_non T
  · exact tyt_int T _
  · exact tyt_lst T h2
  · exact tyt_str T _
  · exact tyt_bl T _
theorem BV.bad {K : PySem.W.Frag} {H : Hp} {x : V} (h : BV H x) : BadN K H x 0 1 := by
  rcases h with rfl | rfl | ⟨b, rfl⟩ | rfl | ⟨z, rfl⟩ | ⟨a, xs, rfl, h2⟩ | ⟨a, rfl, h2⟩
  · exact .inr ⟨_, rfl, by decide⟩
  · exact .inr ⟨_, rfl, by decide⟩
  · exact .inl (isv_bl _)
  · exact .inl isv_non
  · exact .inl (isv_str _)
  · exact .inl (isv_lst h2)
  · exact .inl (isv_dK h2)
theorem Tabs.bh {T : List (Addr × Str)} {h : Addr} {H H' : Hp} (t : LamX.Tabs T H) (b : Bh h H H') (hh : ∃ xs, H h = some (.lst xs)) : LamX.Tabs T H' := fun p hp => TabS.bh (t p hp) b hh
theorem Tabs.sm {T : List (Addr × Str)} {H H' : Hp} (t : LamX.Tabs T H) (s : Same H H') : LamX.Tabs T H' := t.ext s
theorem Harb.lst {H : Hp} {h c : Addr} {t : Nat} (a : Harb H h c t) : ∃ xs, H h = some (.lst xs) := by
  obtain ⟨_, _, _, e, _⟩ := a
  exact ⟨_, e⟩
theorem ext_sm {H H' : Hp} (s : Same H H') : LamX.ExtN H H' := fun b o e _ => s b o e
theorem Harb.ext {H H' : Hp} {h c : Addr} {t : Nat} (a : Harb H h c t) (e : LamX.ExtN H H') : Harb H' h c t := by
  obtain ⟨cs, tn, lf, h1, h2, h3, h4⟩ := a
  exact ⟨cs, tn, lf, e _ _ h1 (fun _ z => by cases z), e _ _ h2 (fun _ z => by cases z), h3, h4⟩
def dTell : List PyData := [.tuple [.str "table", .str "table"], .tuple [.str "number", .str "burns"], .tuple [.str "lamps", .int 7]]
def dTells : List PyData := dTell ++ dTell
theorem dTells_ok : SeqAt.shaped (.list dTells) = true ∧ PyData.eqv (.list dTells) (.list dTells) = true := by decide +kernel
/-- three told pairs -/
def Told3 (H : Hp) (a b c : Addr) : Prop := H a = some (.tup [.str "table", .str "table"]) ∧ H b = some (.tup [.str "number", .str "burns"]) ∧ H c = some (.tup [.str "lamps", .int 7])
theorem Told3.ext {H H' : Hp} {a b c : Addr} (t : Told3 H a b c) (e : LamX.ExtN H H') : Told3 H' a b c := ⟨e _ _ t.1 (fun _ z => by cases z), e _ _ t.2.1 (fun _ z => by cases z), e _ _ t.2.2 (fun _ z => by cases z)⟩
theorem Told3.dp {K : PySem.W.Frag} {H : Hp} {a b c d e f l : Addr} (t : Told3 H a b c) (u : Told3 H d e f) (h : H l = some (.lst [.ref a, .ref b, .ref c, .ref d, .ref e, .ref f])) : Dp K H (.ref l) (.list dTells) := by
  obtain ⟨t1, t2, t3⟩ := t
  obtain ⟨u1, u2, u3⟩ := u
  exact .lst (.of h) (.cons (.tup (.of t1) (.cons (.str _) (.cons (.str _) .nil))) (.cons (.tup (.of t2) (.cons (.str _) (.cons (.str _) .nil))) (.cons (.tup (.of t3) (.cons (.str _) (.cons (.int _) .nil)))
    (.cons (.tup (.of u1) (.cons (.str _) (.cons (.str _) .nil))) (.cons (.tup (.of u2) (.cons (.str _) (.cons (.str _) .nil))) (.cons (.tup (.of u3) (.cons (.str _) (.cons (.int _) .nil))) .nil))))))
def lawT (Pt : Addr) : List (Addr × Str) := [(Pt, ("law" : Str) ++ ".<locals>." ++ "<lambda>")]
theorem lawT_u {Pt : Addr} : ∀ p ∈ lawT Pt, p.1 = Pt → p.2 = (("law" : Str) ++ ".<locals>." ++ "<lambda>") := fun p hp _ => by rw [List.mem_singleton.mp hp]
theorem binds1 {q : Str} {params : Arguments} {body : Expr} {scope : Scope} {cl : List (Str × Addr)} {doc pm cv ctv : Value} {y : Str} {s : Shared} {T0 : Addr} {i : Int} {tk : Tok} (e : s.heap.get? T0 = some (PySem.W.kdv_tup [.int i tk]))
    (h : ∃ k : Option (Array Value) → Sem (List (Str × Value)), bindArgs (LamD.klf q params body scope cl (.ref T0) doc pm cv ctv) ⟨[], []⟩ = PySem.seqItems? (.ref T0) >>= k ∧ k (some #[.int i tk]) = pure [(y, .int i tk)]) :
    BindsTo s (LamD.klf q params body scope cl (.ref T0) doc pm cv ctv) ⟨[], []⟩ [(y, .int i tk)] := by
  obtain ⟨k, h1, h2⟩ := h
  exact BindsTo.of_defaults rfl e rfl h1 h2
open PyProof.Rows in
theorem run_law {P : Program} {w : World} {K : PySem.W.Frag} {mg : Str → Option Value} {base : Heap} {CT CB CN CM LE f c Pt : Addr} {oc : Value} {od an : Option Addr} {osl : Array (Option Value)} {dV kV doc pm ct : Value}
    (lk : K.lookup f = some ⟨oc, od, .func (PySem.W.fnOf "law" "law" (defArgs lLaw) (defBody lLaw) (defScope lLaw) dV kV doc pm an (.ref c) ct), osl⟩) (hcd : PySem.W.codeIn K (.ref c) "law" = true)
    (TB : LamX.TabB base mg c Pt) (B : Bt mg) (T : TabC K mg CT) (hc : HdC K mg LE CB CN CM) (DH : Df K mg "_law_heard" lHeard)
    (cHa : Cal P w K mg base 1 "_law_harbour" (spHarb K)) (cB : Cal P w K mg base 1 "_law_buoy_by" spBuoy) (cPk : Cal P w K mg base 2 "_law_pick" spPick) (cG : Cal P w K mg base 3 "_law_goals" spLGoals)
    (cR : CalG P w K mg base 9 "_law_helped_right" ["_law_lamps", "_law_goals_here", "_law_burns"] spRight) (cM : CalM P w K mg base 5 CT) (cSt : Cal P w K mg base 7 "still" (spStill CT))
    (cH : CalR P w K mg base 8 "helped" ["table", "burns"] (spHelped K CT CB CN CM)) (cS : CalR P w K mg base 6 "shows_helped" ["table", "burns", "value"] (spShows K CT CB CN CM))
    {A : Around} {outer : List Env} {s : Shared} {H : Hp} {a : Addr} {ns : List Int} (hgd : A.guards = some []) (hr : Room 12 A) (e0 : Env0 P w K mg base A outer s H) (hb : BindsTo s (PySem.W.fnOf "law" "law" (defArgs lLaw) (defBody lLaw) (defScope lLaw) dV kV doc pm an (.ref c) ct) ⟨[.ref a], []⟩ [("_law_script", .ref a)])
    (hP : H Pt = some (.tbl #[])) (hS : SqL K H a (ns.map V.int)) : codeAny (model P w) A (.call (.ref f) ⟨[.ref a], []⟩) (CR C8.CX0 outer P w H s (fun v _ => v = .bl true) C8.E0) s := by
  refine LamX.run_ofS (ps := ["_law_script"]) (us := [.ref a]) (vs := [.ref a]) lk hcd scLaw hr e0 hb (.cons rfl .nil) rfl fun hr => ?_
  obtain ⟨g, fdg, Fg, gg⟩ := DH.ex
  have bg := Fg.binds (ps := ["_law_ask"]) (fun _ _ _ _ _ _ us hl => match us, hl with | [_], _ => rfl)
  obtain ⟨ocg, odg, kVg, docg, pmg, ang, cdg, ctg, oslg, rfl, lkg, hcg⟩ := Fg.ex
  have TERM : ∃ t, PSs (cxOf C8.CX0 P w K mg base lawN "law" (defScope lLaw) f (.ref c) A outer s H C8.E0).nox (defBody lLaw) t ∧ t { nx := fun _ H' => V.non = .bl true, rt := fun v _ => v = .bl true } (start lawN [.ref a]) H := by
    refine ⟨_, pss_cons (ps_set (i := 1) scLaw.nd rfl (Or.inl rfl) (pc cHa hr (by decide) (by rfl) (pa_cons (pv 0) pa_nil)))
      (pss_cons (ps_for PassesOwn.never rfl (pi_list (pe_op op_cat (pe_lst (pa_cons (pc cPk hr (by decide) (by rfl) (pa_cons (pv 1) (pa_cons (pe_lst (pa_cons pe_int (pa_cons pe_int (pa_cons pe_int pa_nil)))) pa_nil))) (pa_cons (pc cPk hr (by decide) (by rfl) (pa_cons (pv 1) (pa_cons (pe_lst (pa_cons pe_int (pa_cons pe_int (pa_cons pe_int (pa_cons pe_int pa_nil))))) pa_nil))) pa_nil)))
          (pe_op op_rep (pe_lst (pa_cons pe_int pa_nil)) (pe_callTy call_int1 (by rfl) B.int (by decide +kernel) (pa_cons (pe_cmpR op_eq (pc cB hr (by decide) (by rfl) (pa_cons (pv 1) (pa_cons pe_int pa_nil))) pe_int (nomark _)) pa_nil))))) (pg_name (i := 2) scLaw.nd rfl (Or.inl rfl))
        (pss_cons (ps_asg (pe_tup (pa_cons (pc cG hr (by decide) (by rfl) (pa_cons (pv 1) (pa_cons (pv 2) pa_nil))) (pa_cons (pc cB hr (by decide) (by rfl) (pa_cons (pv 1) (pa_cons pe_int pa_nil))) pa_nil))) (pg_tup rfl (pgs_cons (pg_name (i := 3) scLaw.nd rfl (Or.inl rfl)) (pgs_cons (pg_name (i := 4) scLaw.nd rfl (Or.inr rfl)) pgs_nil))))
        (pss_cons (ps_if (pt_not (pt_val (pcG cR hgd hr (by decide) (by rfl) (pa_cons (pv 2) (pa_cons (pv 3) (pa_cons (pv 4) pa_nil)))))) (pss_one (ps_ret pe_bl)) pss_nil)
        (pss_cons (ps_asg (pe_tup (pa_cons (pc cPk hr (by decide) (by rfl) (pa_cons (pv 1) (pa_cons (pe_lst (pa_cons pe_non (pa_cons pe_int (pa_cons (pv 3) (pa_cons pe_str (pa_cons (pe_lst (pa_cons (pcM cM hr (by decide) (by rfl) (pa_cons (pv 2) (pa_cons (pv 3) pa_nil))) pa_nil)) (pa_cons pe_bl pa_nil))))))) pa_nil)))
            (pa_cons (pc cPk hr (by decide) (by rfl) (pa_cons (pv 1) (pa_cons (pe_lst (pa_cons pe_int (pa_cons (pe_un un_neg pe_int) (pa_cons pe_bl (pa_cons pe_bl (pa_cons pe_non (pa_cons pe_str (pa_cons (pe_lst (pa_cons pe_int pa_nil)) (pa_cons pe_dnewK pa_nil))))))))) pa_nil))) pa_nil)))
            (pg_tup rfl (pgs_cons (pg_name (i := 5) scLaw.nd rfl (Or.inr rfl)) (pgs_cons (pg_name (i := 6) scLaw.nd rfl (Or.inr rfl)) pgs_nil))))
        (pss_cons (ps_set (i := 7) scLaw.nd rfl (Or.inl rfl) (pe_lst (pa_cons (LamD.pe_heard0 (T := lawT Pt) (k := 8) (TT := TTh CB CN CM) (by rfl) gg Fg.kp lkg hcg bg scHeard rfl (Or.inl rfl) (gives_heard B hc) TB rfl (List.mem_singleton.mpr rfl) lawT_u (hr.mono (by decide)) (LamD.lamS_by (by show LamD.lamSB lawN (defScope lLaw) _ = true; decide +kernel)) rfl (fun _ _ _ _ _ _ => rfl)
              (fun A' outer' s' H' E f' c' hr2 => pcx (W := fun cls d _ H => E cls d H) cH.toCal (takes_of rfl rfl rfl rfl) hr2 (by decide) (by rfl) (pa_cons (pv 5) (pa_cons (pv 6) pa_nil))))
            (pa_cons (LamD.pe_heard1 (T := lawT Pt) (k := 8) (TT := TTh CB CN CM) (y := "_law_a1") (by rfl) gg Fg.kp lkg hcg bg scHeard rfl (Or.inl rfl) (gives_heard B hc) TB rfl (List.mem_singleton.mpr rfl) lawT_u (hr.mono (by decide)) (LamD.lamS_by (by show LamD.lamSB lawN (defScope lLaw) _ = true; decide +kernel)) rfl rfl rfl (fun _ _ _ _ _ _ _ _ _ e => binds1 e ⟨_, rfl, rfl⟩)
              (fun A' outer' s' H' E f' c' hr2 => pcx (W := fun cls d _ H => E cls d H) cH.toCal (takes_of rfl rfl rfl rfl) hr2 (by decide) (by rfl) (pa_cons (pc cSt hr2 (by decide) (by rfl) (pa_cons pe_int pa_nil)) (pa_cons (pv 6) pa_nil))))
            (pa_cons (LamD.pe_heard1 (T := lawT Pt) (k := 8) (TT := TTh CB CN CM) (y := "_law_a2") (by rfl) gg Fg.kp lkg hcg bg scHeard rfl (Or.inl rfl) (gives_heard B hc) TB rfl (List.mem_singleton.mpr rfl) lawT_u (hr.mono (by decide)) (LamD.lamS_by (by show LamD.lamSB lawN (defScope lLaw) _ = true; decide +kernel)) rfl rfl rfl (fun _ _ _ _ _ _ _ _ _ e => binds1 e ⟨_, rfl, rfl⟩)
              (fun A' outer' s' H' E f' c' hr2 => pcx (W := fun cls d _ H => E cls d H) cH.toCal (takes_of rfl rfl rfl rfl) hr2 (by decide) (by rfl) (pa_cons (pc cSt hr2 (by decide) (by rfl) (pa_cons pe_int pa_nil)) (pa_cons (pv 4) pa_nil)))) pa_nil)))))
        (pss_cons (ps_set (i := 7) scLaw.nd rfl (Or.inl rfl) (pe_op op_cat (pv 7) (pe_lst (pa_cons (LamD.pe_heard0 (T := lawT Pt) (k := 8) (TT := TTh CB CN CM) (by rfl) gg Fg.kp lkg hcg bg scHeard rfl (Or.inl rfl) (gives_heard B hc) TB rfl (List.mem_singleton.mpr rfl) lawT_u (hr.mono (by decide)) (LamD.lamS_by (by show LamD.lamSB lawN (defScope lLaw) _ = true; decide +kernel)) rfl (fun _ _ _ _ _ _ => rfl)
              (fun A' outer' s' H' E f' c' hr2 => pcx (W := fun cls d _ H => E cls d H) cS.toCal (takes_of rfl rfl rfl rfl) hr2 (by decide) (by rfl) (pa_cons (pv 5) (pa_cons (pv 6) (pa_cons pe_non pa_nil)))))
            (pa_cons (LamD.pe_heard1 (T := lawT Pt) (k := 8) (TT := TTh CB CN CM) (y := "_law_a1") (by rfl) gg Fg.kp lkg hcg bg scHeard rfl (Or.inl rfl) (gives_heard B hc) TB rfl (List.mem_singleton.mpr rfl) lawT_u (hr.mono (by decide)) (LamD.lamS_by (by show LamD.lamSB lawN (defScope lLaw) _ = true; decide +kernel)) rfl rfl rfl (fun _ _ _ _ _ _ _ _ _ e => binds1 e ⟨_, rfl, rfl⟩)
              (fun A' outer' s' H' E f' c' hr2 => pcx (W := fun cls d _ H => E cls d H) cS.toCal (takes_of rfl rfl rfl rfl) hr2 (by decide) (by rfl) (pa_cons (pc cSt hr2 (by decide) (by rfl) (pa_cons pe_int pa_nil)) (pa_cons (pv 6) (pa_cons pe_non pa_nil)))))
            (pa_cons (LamD.pe_heard1 (T := lawT Pt) (k := 8) (TT := TTh CB CN CM) (y := "_law_a2") (by rfl) gg Fg.kp lkg hcg bg scHeard rfl (Or.inl rfl) (gives_heard B hc) TB rfl (List.mem_singleton.mpr rfl) lawT_u (hr.mono (by decide)) (LamD.lamS_by (by show LamD.lamSB lawN (defScope lLaw) _ = true; decide +kernel)) rfl rfl rfl (fun _ _ _ _ _ _ _ _ _ e => binds1 e ⟨_, rfl, rfl⟩)
              (fun A' outer' s' H' E f' c' hr2 => pcx (W := fun cls d _ H => E cls d H) cS.toCal (takes_of rfl rfl rfl rfl) hr2 (by decide) (by rfl) (pa_cons (pc cSt hr2 (by decide) (by rfl) (pa_cons pe_int pa_nil)) (pa_cons (pv 4) (pa_cons pe_non pa_nil))))) pa_nil))))))
        (pss_one (ps_if (pt_cmpR (op_neD hr.units) (pv 7) (pe_op op_rep (pe_lst (pa_cons (pe_tup (pa_cons pe_str (pa_cons pe_str pa_nil))) (pa_cons (pe_tup (pa_cons pe_str (pa_cons pe_str pa_nil))) (pa_cons (pe_tup (pa_cons pe_str (pa_cons pe_int pa_nil))) pa_nil)))) pe_int) (nomark _)) (pss_one (ps_ret pe_bl)) pss_nil))))))))
      (pss_one (ps_ret pe_bl))), ?_⟩
    have hT0 : LamX.Tabs (lawT Pt) H := fun p hp => by rw [List.mem_singleton.mp hp]; exact LamX.TabS.nil hP
    refine ⟨_, rfl, a, ns, rfl, hS, fun H1 h ce s1 hh1 hharb => ?_⟩
    have tb1 := Tabs.sm hT0 s1
    obtain ⟨xh, hxh⟩ := hharb.lst
    refine ⟨_, rfl, by decide, fun l1 hl1 => ?_⟩
    have nl1 := hharb.ne hl1
    have s2 := sm_upd (Same.refl H1) hl1 (o := .lst [.int 1, .int 2, .int 3])
    refine ⟨h, ce, l1, 0, [.int 1, .int 2, .int 3], rfl, upd_same, nl1.1.symm, by simp, by decide, by decide, hharb.same s2, fun H3 x b3 hh3 hx => ?_⟩
    have tb3 := Tabs.bh (Tabs.sm tb1 s2) b3 (hharb.same s2).lst
    refine ⟨_, rfl, by decide, fun l2 hl2 => ?_⟩
    have nl2 := hh3.ne hl2
    have s4 := sm_upd (Same.refl H3) hl2 (o := .lst [.int 3, .int 4, .int 5, .int 6])
    refine ⟨h, ce, l2, 1, [.int 3, .int 4, .int 5, .int 6], rfl, upd_same, nl2.1.symm, by simp, by decide, by decide, hh3.same s4, fun H5 y b5 hh5 hy => ?_⟩
    have tb5 := Tabs.bh (Tabs.sm tb3 s4) b5 (hh3.same s4).lst
    refine ⟨by show (2 : Nat) ≤ sizeLine; decide, fun L hL => ?_⟩
    have nL := hh5.ne hL
    have s6 := sm_upd (Same.refl H5) hL (o := .lst [x, y])
    have hL6 : (upd H5 L (.lst [x, y])) L = some (.lst [x, y]) := upd_same
    generalize (upd H5 L (.lst [x, y])) = H6 at s6 hL6
    refine ⟨by decide, fun l7 hl7 => ?_⟩
    have n7 := (hh5.same s6).ne hl7
    have s7 := sm_upd (Same.refl H6) hl7 (o := .lst [.int 7])
    have h77 : (upd H6 l7 (.lst [.int 7])) l7 = some (.lst [.int 7]) := upd_same
    generalize (upd H6 l7 (.lst [.int 7])) = H7 at s7 h77
    have hh7 := (hh5.same s6).same s7
    have tb7 := Tabs.sm (Tabs.sm tb5 s6) s7
    refine ⟨_, rfl, h, ce, 12, 2, rfl, by decide, by decide, by decide, hh7, fun H8 r b8 hh8 hr12 => ?_⟩
    have tb8 := Tabs.bh tb7 b8 hh7.lst
    have hL8 := b8 _ _ nL.1 (s7 _ _ hL6)
    have h78 := b8 _ _ n7.1 h77
    refine ⟨rfl, .inr ⟨_, rfl, ?_⟩⟩
    have hk : ∃ k : Nat, k ≤ 1 ∧ (if (decide (V.int (r : Int) = V.int 0)) = true then (1 : Int) else 0) = (k : Int) := by
      by_cases e : decide (V.int (r : Int) = V.int 0) = true
      · exact ⟨1, by omega, by rw [if_pos e]; rfl⟩
      · exact ⟨0, by omega, by rw [if_neg e]; rfl⟩
    obtain ⟨k7, hk1, ek⟩ := hk
    refine ⟨l7, (k7 : Int), [.int 7], rfl, congrArg V.int ek, h78, by omega, by omega, ?_, fun p9 hp9 => ?_⟩
    · rw [Int.toNat_natCast]
      show 1 * k7 ≤ sizeLine
      rw [sizeLine_eq]; omega
    rw [Int.toNat_natCast]
    have n9 := hh8.ne hp9
    have s9 := sm_upd (Same.refl H8) hp9 (o := .lst (List.replicate k7 [V.int 7]).flatten)
    have h99 : (upd H8 p9 (.lst (List.replicate k7 [V.int 7]).flatten)) p9 = some (.lst (List.replicate k7 [V.int 7]).flatten) := upd_same
    generalize (upd H8 p9 (.lst (List.replicate k7 [V.int 7]).flatten)) = H9 at s9 h99
    have hvs : ∃ vs : List V, [x, y] ++ (List.replicate k7 [V.int 7]).flatten = vs ∧ vs.length ≤ 3 ∧ ∀ v ∈ vs, ∃ n : Nat, v = .int (n : Int) ∧ 1 ≤ n ∧ n ≤ 7 := by
      have hx' : ∃ n : Nat, x = .int (n : Int) ∧ 1 ≤ n ∧ n ≤ 7 := by
        simp only [List.mem_cons, List.not_mem_nil, or_false] at hx
        rcases hx with rfl | rfl | rfl
        · exact ⟨1, rfl, by omega, by omega⟩
        · exact ⟨2, rfl, by omega, by omega⟩
        · exact ⟨3, rfl, by omega, by omega⟩
      have hy' : ∃ n : Nat, y = .int (n : Int) ∧ 1 ≤ n ∧ n ≤ 7 := by
        simp only [List.mem_cons, List.not_mem_nil, or_false] at hy
        rcases hy with rfl | rfl | rfl | rfl
        · exact ⟨3, rfl, by omega, by omega⟩
        · exact ⟨4, rfl, by omega, by omega⟩
        · exact ⟨5, rfl, by omega, by omega⟩
        · exact ⟨6, rfl, by omega, by omega⟩
      refine ⟨_, rfl, ?_, fun v hv => ?_⟩
      · have : k7 = 0 ∨ k7 = 1 := by omega
        rcases this with rfl | rfl <;> simp
      · have : k7 = 0 ∨ k7 = 1 := by omega
        rcases this with rfl | rfl
        · simp at hv
          rcases hv with rfl | rfl
          · exact hx'
          · exact hy'
        · simp at hv
          rcases hv with rfl | rfl | rfl
          · exact hx'
          · exact hy'
          · exact ⟨7, rfl, by omega, by omega⟩
    obtain ⟨vs, evs, hvl, hvs⟩ := hvs
    refine ⟨L, p9, _, _, rfl, rfl, s9 _ _ hL8, h99, ?_, fun W hW => ?_⟩
    · rw [← List.length_append, evs, sizeLine_eq]; omega
    rw [evs]
    have hh9 := hh8.same s9
    have nW := hh9.ne hW
    have s10 := sm_upd (Same.refl H9) hW (o := .lst vs)
    have hW10 : (upd H9 W (.lst vs)) W = some (.lst vs) := upd_same
    generalize (upd H9 W (.lst vs)) = H10 at s10 hW10
    refine ⟨W, rfl, ⟨_, .of hW10⟩, ?_⟩
    refine for_it (walk_list (xs := vs)) (fun i σ H' => (∃ x2 x3 x4 x5 x6 x7, σ = [some (.ref a), some (.ref h), x2, x3, x4, x5, x6, x7]) ∧ Harb H' h ce (3 + 2003 * i) ∧ LamX.Tabs (lawT Pt) H' ∧ H' W = some (.lst vs))
      ⟨⟨_, _, _, _, _, _, rfl⟩, hh9.same s10, Tabs.sm (Tabs.sm tb8 s9) s10, hW10⟩ (fun i σ H' _ q => .of q.2.2.2) ?_ ?_
    · rintro i v σ H11 H11' hi ⟨⟨x2, x3, x4, x5, x6, x7, rfl⟩, hh11, tb11, hW11⟩ ⟨rfl, hv⟩
      obtain ⟨n, rfl, hn1, hn7⟩ := hvs v (List.mem_iff_getElem?.mpr ⟨_, hv⟩)
      have hi3 : i < 3 := by omega
      refine ⟨_, rfl, _, rfl, h, ce, n, 3 + 2003 * i, rfl, hn1, hn7, by omega, hh11, fun H12 g gl b12 hg12 hgl12 Tb hh12 => ?_⟩
      have tb12 := Tabs.bh tb11 b12 hh11.lst
      have ng := hh11.ne hg12
      have hW12 := b12 _ _ nW.1 hW11
      refine ⟨_, rfl, h, ce, 2, 3 + 2003 * i + 2000, rfl, by decide, by decide, by omega, hh12, fun H13 b b13 hh13 hb2 => ?_⟩
      have tb13 := Tabs.bh tb12 b13 hh12.lst
      have hg13 := b13 _ _ ng.1 hgl12
      have hW13 := b13 _ _ nW.1 hW12
      refine ⟨by show (2 : Nat) ≤ sizeLine; decide, fun t14 ht14 => ?_⟩
      have s14 := sm_upd (Same.refl H13) ht14 (o := .tup [.ref g, .int (b : Int)])
      have h14 : (upd H13 t14 (.tup [.ref g, .int (b : Int)])) t14 = some (.tup [.ref g, .int (b : Int)]) := upd_same
      generalize (upd H13 t14 (.tup [.ref g, .int (b : Int)])) = H14 at s14 h14
      refine ⟨t14, _, rfl, .of h14, rfl, _, _, rfl, _, _, rfl, rfl, ?_⟩
      have hg14 := s14 _ _ hg13
      refine ⟨_, rfl, _, rfl, _, rfl, n, g, gl, b, rfl, hg14, hn1, hn7, Tb, hb2, fun H15 s15 => ⟨true, rfl, iteF ?_⟩⟩
      have hh15 := (hh13.same s14).same s15
      have tb15 := Tabs.sm (Tabs.sm tb13 s14) s15
      have hg15 := s15 _ _ hg14
      have hW15 := s15 _ _ (s14 _ _ hW13)
      refine ⟨_, rfl, _, rfl, _, rfl, _, rfl, ?_⟩
      intro p16 dx16 hp16 hdx16 hne16
      refine tab_newQ hg15 hn1 (by omega) Tb p16 dx16 hp16 hdx16 hne16 fun H16 s16 hT16 => ⟨rfl, (by show (1 : Nat) ≤ sizeLine; decide), fun l17 hl17 => ⟨(by show (6 : Nat) ≤ sizeLine; decide), fun l18 hl18 => ?_⟩⟩
      have hh16 := hh15.same s16
      have s17 := sm_upd (Same.refl H16) hl17 (o := .lst [.ref p16])
      have n17 := hh16.ne hl17
      have h17 : (upd H16 l17 (.lst [.ref p16])) l17 = some (.lst [.ref p16]) := upd_same
      generalize (upd H16 l17 (.lst [.ref p16])) = H17 at s17 h17 hl18
      have hh17 := hh16.same s17
      have n18 := hh17.ne hl18
      have s18 := sm_upd (Same.refl H17) hl18 (o := .lst [.non, .int 5, .ref g, .str "2 0 1 2 3", .ref l17, .bl true])
      refine ⟨h, ce, l18, 3 + 2003 * i + 2000 + 1, [.non, .int 5, .ref g, .str "2 0 1 2 3", .ref l17, .bl true], rfl, upd_same, n18.1.symm, by simp, (by show (6 : Nat) ≤ 1000; decide), by omega, hh17.same s18, fun H19 xn b19 hh19 hxn => ?_⟩
      have tb19 := Tabs.bh (Tabs.sm (Tabs.sm (Tabs.sm tb15 s16) s17) s18) b19 (hh17.same s18).lst
      have hg19 := b19 _ _ ng.1 (s18 _ _ (s17 _ _ (s16 _ _ hg15)))
      have hW19 := b19 _ _ nW.1 (s18 _ _ (s17 _ _ (s16 _ _ hW15)))
      have hNV : NV H19 xn := by
        simp only [List.mem_cons, List.not_mem_nil, or_false] at hxn
        rcases hxn with rfl | rfl | rfl | rfl | rfl | rfl
        · exact .inl rfl
        · exact .inr (.inl rfl)
        · exact .inr (.inr (.inl ⟨_, _, rfl, hg19⟩))
        · exact .inr (.inr (.inr (.inl ⟨_, rfl⟩)))
        · exact .inr (.inr (.inl ⟨_, _, rfl, b19 _ _ n17.1 (s18 _ _ h17)⟩))
        · exact .inr (.inr (.inr (.inr ⟨_, rfl⟩)))
      refine ⟨_, rfl, _, rfl, ?_⟩
      refine ⟨by decide, fun l20 hl20 d21 hd21 => ⟨(by show (8 : Nat) ≤ sizeLine; decide), fun l22 hl22 => ?_⟩⟩
      have n20 := hh19.ne hl20
      have s20 := sm_upd (Same.refl H19) hl20 (o := .lst [.int 1])
      have h20 : (upd H19 l20 (.lst [.int 1])) l20 = some (.lst [.int 1]) := upd_same
      generalize (upd H19 l20 (.lst [.int 1])) = H20 at s20 h20 hd21 hl22
      have hh20 := hh19.same s20
      have n21 := hh20.ne hd21
      have s21 := sm_upd (Same.refl H20) hd21 (o := .dK [])
      have h21 : (upd H20 d21 (.dK [])) d21 = some (.dK []) := upd_same
      generalize (upd H20 d21 (.dK [])) = H21 at s21 h21 hl22
      have hh21 := hh20.same s21
      have n22 := hh21.ne hl22
      have s22 := sm_upd (Same.refl H21) hl22 (o := .lst [.int 2, .int (-1), .bl true, .bl false, .non, .str "1", .ref l20, .ref d21])
      refine ⟨h, ce, l22, 3 + 2003 * i + 2000 + 1 + 1, [.int 2, .int (-1), .bl true, .bl false, .non, .str "1", .ref l20, .ref d21], rfl, upd_same, n22.1.symm, by simp, (by show (8 : Nat) ≤ 1000; decide), by omega, hh21.same s22, fun H23 xb b23 hh23 hxb => ?_⟩
      have tb23 := Tabs.bh (Tabs.sm (Tabs.sm (Tabs.sm tb19 s20) s21) s22) b23 (hh21.same s22).lst
      have hg23 := b23 _ _ ng.1 (s22 _ _ (s21 _ _ (s20 _ _ hg19)))
      have hW23 := b23 _ _ nW.1 (s22 _ _ (s21 _ _ (s20 _ _ hW19)))
      have hBV : BV H23 xb := by
        simp only [List.mem_cons, List.not_mem_nil, or_false] at hxb
        rcases hxb with rfl | rfl | rfl | rfl | rfl | rfl | rfl | rfl
        · exact .inl rfl
        · exact .inr (.inl rfl)
        · exact .inr (.inr (.inl ⟨_, rfl⟩))
        · exact .inr (.inr (.inl ⟨_, rfl⟩))
        · exact .inr (.inr (.inr (.inl rfl)))
        · exact .inr (.inr (.inr (.inr (.inl ⟨_, rfl⟩))))
        · exact .inr (.inr (.inr (.inr (.inr (.inl ⟨_, _, rfl, b23 _ _ n20.1 (s22 _ _ (s21 _ _ h20))⟩)))))
        · exact .inr (.inr (.inr (.inr (.inr (.inr ⟨_, rfl, b23 _ _ n21.1 (s22 _ _ h21)⟩)))))
      have hNV23 : NV H23 xn := by
        rcases hNV with h | h | ⟨q, xs, h1, h2⟩ | h | h
        · exact .inl h
        · exact .inr (.inl h)
        · refine .inr (.inr (.inl ⟨q, xs, h1, ?_⟩))
          simp only [List.mem_cons, List.not_mem_nil, or_false] at hxn
          have nq : q ≠ h := by
            subst h1
            rcases hxn with e | e | e | e | e | e
            · cases e
            · cases e
            · cases e; exact ng.1
            · cases e
            · cases e; exact n17.1
            · cases e
          exact b23 _ _ nq (s22 _ _ (s21 _ _ (s20 _ _ h2)))
        · exact .inr (.inr (.inr (.inl h)))
        · exact .inr (.inr (.inr (.inr h)))
      refine ⟨by show (2 : Nat) ≤ sizeLine; decide, fun t24 ht24 => ?_⟩
      have s24 := sm_upd (Same.refl H23) ht24 (o := .tup [xn, xb])
      have h24 : (upd H23 t24 (.tup [xn, xb])) t24 = some (.tup [xn, xb]) := upd_same
      generalize (upd H23 t24 (.tup [xn, xb])) = H24 at s24 h24
      have hh24 := hh23.same s24
      have tb24 := Tabs.sm tb23 s24
      have hW24 := s24 _ _ hW23
      have nv24 := hNV23.ext (ext_sm s24)
      have bv24 := hBV.ext (ext_sm s24)
      refine ⟨t24, _, rfl, .of h24, rfl, _, _, rfl, _, _, rfl, rfl, ?_⟩
      have hh24' := hh24.mono (t' := 3 + 2003 * (i + 1)) (by omega)
      clear hNV hNV23 hBV hxn hxb
      refine ⟨tb24, fun H30 e30 tb30 => ⟨CB, [("part", .str "table")], .str "table", .str "table", .B rfl, fun H31 p31 s31 hp31 h31 => ?_, fun E Qn rs => ⟨_, rfl, _, rfl, xn, xb, rfl, .inr (.inl ⟨(nv24.ext e30).ty T, rs⟩)⟩⟩⟩
      have e31 := e30.trans (ext_sm s31)
      refine ⟨Tabs.sm tb30 s31, fun H32 e32 tb32 => ⟨CN, [("part", .str "burns")], .str "number", .str "burns", .N rfl, fun H33 p33 s33 hp33 h33 => ?_, fun E Qn rs => ⟨8, rfl, by decide, by decide, fun H' p s hp hT => ⟨_, rfl, .ref p, xb, rfl, .inr (.inr (.inl ⟨tyt_tab T hT, (bv24.ext ((e31.trans e32).trans (ext_sm s))).bad, rs_on rs s⟩))⟩⟩⟩⟩
      have e33 := (e31.trans e32).trans (ext_sm s33)
      refine ⟨Tabs.sm tb32 s33, fun H34 e34 tb34 => ⟨CM, [("what", .str "lamps"), ("most", .int 7)], .str "lamps", .int 7, .M rfl rfl, fun H35 p35 s35 hp35 h35 => ?_, fun E Qn rs => ⟨8, rfl, by decide, by decide, fun H' p s hp hT => ⟨_, rfl, .ref p, .int (b : Int), rfl, .inr (.inr (.inr ⟨p, _, b, rfl, rfl, hT, hb2, rs_on rs s⟩))⟩⟩⟩⟩
      have e35 := (e33.trans e34).trans (ext_sm s35)
      have tb35 := Tabs.sm tb34 s35
      have told30 : Told3 H35 p31 p33 p35 := ⟨s35 _ _ (e34 _ _ (s33 _ _ (e32 _ _ h31 (fun _ z => by cases z))) (fun _ z => by cases z)), s35 _ _ (e34 _ _ h33 (fun _ z => by cases z)), h35⟩
      refine ⟨by show (3 : Nat) ≤ sizeLine; decide, fun l36 hl36 => ?_⟩
      have s36 := sm_upd (Same.refl H35) hl36 (o := .lst [.ref p31, .ref p33, .ref p35])
      have h36 : (upd H35 l36 (.lst [.ref p31, .ref p33, .ref p35])) l36 = some (.lst [.ref p31, .ref p33, .ref p35]) := upd_same
      generalize (upd H35 l36 (.lst [.ref p31, .ref p33, .ref p35])) = H36 at s36 h36
      have e36 := e35.trans (ext_sm s36)
      have tb36 := Tabs.sm tb35 s36
      have tld30 := told30.ext (ext_sm s36)
      have nv36 := nv24.ext e36
      have bv36 := bv24.ext e36
      refine ⟨_, rfl, ?_⟩
      refine ⟨tb36, fun H40 e40 tb40 => ⟨CB, [("part", .str "table")], .str "table", .str "table", .B rfl, fun H41 p41 s41 hp41 h41 => ?_, fun E Qn rs => ⟨_, rfl, _, rfl, xn, xb, .non, rfl, .inr (.inl ⟨(nv36.ext e40).ty T, rs⟩)⟩⟩⟩
      have e41 := e40.trans (ext_sm s41)
      refine ⟨Tabs.sm tb40 s41, fun H42 e42 tb42 => ⟨CN, [("part", .str "burns")], .str "number", .str "burns", .N rfl, fun H43 p43 s43 hp43 h43 => ?_, fun E Qn rs => ⟨8, rfl, by decide, by decide, fun H' p s hp hT => ⟨_, rfl, .ref p, xb, .non, rfl, .inr (.inr (.inl ⟨tyt_tab T hT, (bv36.ext ((e41.trans e42).trans (ext_sm s))).bad, rs_on rs s⟩))⟩⟩⟩⟩
      have e43 := (e41.trans e42).trans (ext_sm s43)
      refine ⟨Tabs.sm tb42 s43, fun H44 e44 tb44 => ⟨CM, [("what", .str "lamps"), ("most", .int 7)], .str "lamps", .int 7, .M rfl rfl, fun H45 p45 s45 hp45 h45 => ?_, fun E Qn rs => ⟨8, rfl, by decide, by decide, fun H' p s hp hT => ⟨_, rfl, .ref p, .int (b : Int), .non, rfl, .inr (.inr (.inr ⟨p, _, b, rfl, rfl, hT, hb2, rs_on rs s⟩))⟩⟩⟩⟩
      have e45 := (e43.trans e44).trans (ext_sm s45)
      have tb45 := Tabs.sm tb44 s45
      have told40 : Told3 H45 p41 p43 p45 := ⟨s45 _ _ (e44 _ _ (s43 _ _ (e42 _ _ h41 (fun _ z => by cases z))) (fun _ z => by cases z)), s45 _ _ (e44 _ _ h43 (fun _ z => by cases z)), h45⟩
      refine ⟨by show (3 : Nat) ≤ sizeLine; decide, fun l46 hl46 => ?_⟩
      have s46 := sm_upd (Same.refl H45) hl46 (o := .lst [.ref p41, .ref p43, .ref p45])
      have h46 : (upd H45 l46 (.lst [.ref p41, .ref p43, .ref p45])) l46 = some (.lst [.ref p41, .ref p43, .ref p45]) := upd_same
      generalize (upd H45 l46 (.lst [.ref p41, .ref p43, .ref p45])) = H46 at s46 h46
      have e46 := e45.trans (ext_sm s46)
      have tb46 := Tabs.sm tb45 s46
      have tld40 := told40.ext (ext_sm s46)
      have h36' := e46 _ _ h36 (fun _ z => by cases z)
      refine ⟨l36, l46, _, _, rfl, rfl, h36', h46, by show (6 : Nat) ≤ sizeLine; decide, fun l50 hl50 => ?_⟩
      have s50 := sm_upd (Same.refl H46) hl50 (o := .lst ([.ref p31, .ref p33, .ref p35] ++ [.ref p41, .ref p43, .ref p45]))
      have h50 : (upd H46 l50 (.lst ([.ref p31, .ref p33, .ref p35] ++ [.ref p41, .ref p43, .ref p45]))) l50 = some (.lst [.ref p31, .ref p33, .ref p35, .ref p41, .ref p43, .ref p45]) := upd_same
      generalize (upd H46 l50 (.lst ([.ref p31, .ref p33, .ref p35] ++ [.ref p41, .ref p43, .ref p45]))) = H50 at s50 h50
      have td1 := (tld30.ext e46).ext (ext_sm s50)
      have td2 := tld40.ext (ext_sm s50)
      refine ⟨_, rfl, ?_⟩
      refine ⟨by decide, fun q51 hq51 => ?_⟩
      have s51 := sm_upd (Same.refl H50) hq51 (o := .tup [.str "table", .str "table"])
      have h51 : (upd H50 q51 (.tup [.str "table", .str "table"])) q51 = some (.tup [.str "table", .str "table"]) := upd_same
      generalize (upd H50 q51 (.tup [.str "table", .str "table"])) = H51 at s51 h51
      refine ⟨by decide, fun q52 hq52 => ?_⟩
      have s52 := sm_upd (Same.refl H51) hq52 (o := .tup [.str "number", .str "burns"])
      have h52 : (upd H51 q52 (.tup [.str "number", .str "burns"])) q52 = some (.tup [.str "number", .str "burns"]) := upd_same
      generalize (upd H51 q52 (.tup [.str "number", .str "burns"])) = H52 at s52 h52
      refine ⟨by decide, fun q53 hq53 => ?_⟩
      have s53 := sm_upd (Same.refl H52) hq53 (o := .tup [.str "lamps", .int 7])
      have h53 : (upd H52 q53 (.tup [.str "lamps", .int 7])) q53 = some (.tup [.str "lamps", .int 7]) := upd_same
      generalize (upd H52 q53 (.tup [.str "lamps", .int 7])) = H53 at s53 h53
      refine ⟨by show (3 : Nat) ≤ sizeLine; decide, fun l54 hl54 => ?_⟩
      have s54 := sm_upd (Same.refl H53) hl54 (o := .lst [.ref q51, .ref q52, .ref q53])
      have h54 : (upd H53 l54 (.lst [.ref q51, .ref q52, .ref q53])) l54 = some (.lst [.ref q51, .ref q52, .ref q53]) := upd_same
      generalize (upd H53 l54 (.lst [.ref q51, .ref q52, .ref q53])) = H54 at s54 h54
      have td3 : Told3 H54 q51 q52 q53 := ⟨s54 _ _ (s53 _ _ (s52 _ _ h51)), s54 _ _ (s53 _ _ h52), s54 _ _ h53⟩
      refine ⟨l54, 2, _, rfl, rfl, h54, by decide, by decide, by show (6 : Nat) ≤ sizeLine; decide, fun l55 hl55 => ?_⟩
      have s55 := sm_upd (Same.refl H54) hl55 (o := .lst [.ref q51, .ref q52, .ref q53, .ref q51, .ref q52, .ref q53])
      have h55 : (upd H54 l55 (.lst [.ref q51, .ref q52, .ref q53, .ref q51, .ref q52, .ref q53])) l55 = some (.lst [.ref q51, .ref q52, .ref q53, .ref q51, .ref q52, .ref q53]) := upd_same
      have s5 := Same.trans (Same.trans s51 s52) (Same.trans s53 (Same.trans s54 s55))
      have td3' := td3.ext (ext_sm s55)
      show rNeD K (.ref l50) (.ref l55) (upd H54 l55 (.lst [.ref q51, .ref q52, .ref q53, .ref q51, .ref q52, .ref q53])) _
      generalize (upd H54 l55 (.lst [.ref q51, .ref q52, .ref q53, .ref q51, .ref q52, .ref q53])) = H55 at s5 h55 td3'
      refine ⟨.list dTells, .list dTells, (td1.ext (ext_sm s5)).dp (td2.ext (ext_sm s5)) (s5 _ _ h50), td3'.dp td3' h55, dTells_ok.1, dTells_ok.1, _, rfl, iteF' (by rw [dTells_ok.2]; rfl) ?_⟩
      have eA := (e46.trans (ext_sm s50)).trans (ext_sm s5)
      have eB := e36.trans eA
      exact ⟨⟨_, _, _, _, _, _, rfl⟩, hh24'.ext eB, Tabs.sm (Tabs.sm tb46 s50) s5, eB _ _ hW24 (fun _ z => by cases z)⟩
    · rintro σ H11 ⟨⟨x2, x3, x4, x5, x6, x7, rfl⟩, hh11, tb11, hW11⟩
      rfl
  obtain ⟨t, ht, hq⟩ := TERM
  exact ⟨t, ht.nox, hq⟩
end K6

/-! KG5 -/
set_option Elab.async false
set_option linter.all false
set_option maxRecDepth 100000
set_option maxHeartbeats 4000000
/-! The end: the law called at the row's own place, where no text of an object is under way; one table. -/
namespace K6
open PySem PySem.Spec PyProof.Rows L2 LamX
theorem law_end {P : Program} {w : World} {K : PySem.W.Frag} {mg mb : Str → Option Value} {fa a c Pt : Addr} {s₁ : Shared} {vs : List Value} {ns : List Int}
    (KX : K.In s₁.heap) (hns : s₁.heap.Ns mainGlobals mg) (hb : s₁.heap.Ns builtinsNs mb) (hbb : ∀ x : Str, x ≠ "__name__" → mb x = bootBuiltins x) (hlim : s₁.heap.NoLimit) (hg : s₁.gens = #[])
    (hT : s₁.heap.get? Pt = some { cls := .none, data := .fields #[] }) (nT : K.lookup Pt = none) (C : PySem.W.CodeHd s₁.heap c Pt)
    (hbm : ∃ (bm : Addr) (ob : Obj), mg "__builtins__" = some (.ref bm) ∧ bm ≠ builtinsNs ∧ s₁.heap.get? bm = some ob ∧ ob.cls = .type "module" ∧ ob.dict = some builtinsNs ∧ ob.data = .plain)
    (ha : s₁.heap.get? a = some { cls := .type "list", data := .seq vs.toArray }) (hi : IntsAre vs ns) (hl : ns.length ≤ sizeLine)
    (run : ∀ (base : Heap) (H : Hp), TabB base mg c Pt → H Pt = some (.tbl #[]) → SqL K H a (ns.map V.int) → Env0 P w K mg base callerA [] s₁ H → codeAny (model P w) callerA (.call (.ref fa) ⟨[.ref a], []⟩) (CR C8.CX0 [] P w H s₁ (fun v _ => v = .bl true) C8.E0) s₁) :
    codeAny (model P w) callerA (.call (.ref fa) ⟨[.ref a], []⟩) (fun r s' => r = .ok (.ret (.bool true)) ∧ OldK s₁.heap s'.heap ∧ s'.os = s₁.os ∧ AllBare s'.gens) s₁ := by
  have rv := vals_ints hi
  have lenV := hi.length
  have aP : a ≠ Pt := fun z => by
    rw [z, hT] at ha
    cases ha
  -- what is tracked: the table, and the script where no written part holds it
  obtain ⟨H, hHP, hHa, hHn⟩ : ∃ H : Hp, H Pt = some (.tbl #[]) ∧ (K.lookup a = none → H a = some (.frz { cls := .type "list", data := .seq vs.toArray } (.lst (ns.map V.int)))) ∧
      ∀ b, b ≠ Pt → H b = none ∨ (b = a ∧ K.lookup a = none) := by
    cases hk : K.lookup a with
    | none =>
      refine ⟨fun b => if b = Pt then some (.tbl #[]) else if b = a then some (.frz { cls := .type "list", data := .seq vs.toArray } (.lst (ns.map V.int))) else none, if_pos rfl, fun _ => (if_neg aP).trans (if_pos rfl), fun b nb => ?_⟩
      by_cases e : b = a
      · exact .inr ⟨e, rfl⟩
      · exact .inl ((if_neg nb).trans (if_neg e))
    | some o =>
      exact ⟨fun b => if b = Pt then some (.tbl #[]) else none, if_pos rfl, fun z => (by cases z), fun b nb => .inl (if_neg nb)⟩
  have known : ∀ b u, H b = some u → (b = Pt ∧ u = .tbl #[]) ∨ (b = a ∧ K.lookup a = none ∧ u = .frz { cls := .type "list", data := .seq vs.toArray } (.lst (ns.map V.int))) := fun b u e => by
    by_cases hb : b = Pt
    · rw [hb, hHP] at e
      exact .inl ⟨hb, (Option.some.inj e).symm⟩
    · rcases hHn b hb with z | ⟨z1, z2⟩
      · rw [z] at e; cases e
      · rw [z1, hHa z2] at e
        exact .inr ⟨z1, z2, (Option.some.inj e).symm⟩
  have hok : HOk P w H s₁.heap := fun b u e => by
    rcases known b u e with ⟨rfl, rfl⟩ | ⟨rfl, _, rfl⟩
    · exact hT
    · exact ⟨ha, by rw [List.length_map]; exact hl, vs, _, rv, ha⟩
  have hS : SqL K H a (ns.map V.int) := by
    cases hk : K.lookup a with
    | none => exact .inl (.inr ⟨_, hHa hk⟩)
    | some o =>
      have e := KX a o hk
      rw [ha] at e
      cases e
      exact .inr ⟨_, vs.toArray, _, hk, rfl, rfl, rfl, by rw [List.size_toArray, lenV]; exact hl, by simpa using rv⟩
  -- what has other data than these is not tracked
  have other : ∀ {b : Addr} {o : Obj}, s₁.heap.get? b = some o → (∀ vs n, o.data ≠ .seq vs n) → o.data ≠ .fields #[] → (hidT s₁.heap H).get? b = some o := fun {b o} e n1 n2 => hidT_get e (by
    cases q : H b with
    | none => rfl
    | some u =>
      rcases known b u q with ⟨rfl, _⟩ | ⟨rfl, _, _⟩
      · rw [hT] at e; cases e; exact (n2 rfl).elim
      · rw [ha] at e; cases e; exact (n1 _ _ rfl).elim)
  have nsB : ∀ {b : Addr} {m : Str → Option Value}, s₁.heap.Ns b m → (hidT s₁.heap H).Ns b m := fun {b m} ⟨o, es, ep, e, d, r⟩ =>
    ⟨o, es, ep, other e (fun _ _ z => by rw [d] at z; cases z) (fun z => by rw [d] at z; cases z), d, r⟩
  have hKb : K.In (hidT s₁.heap H) := fun b o e => hidT_get (KX b o e) (by
    cases q : H b with
    | none => rfl
    | some u =>
      rcases known b u q with ⟨rfl, _⟩ | ⟨rfl, z, _⟩
      · rw [nT] at e; cases e
      · rw [z] at e; cases e)
  have hM : L2.Mod K mg (hidT s₁.heap H) := ⟨hKb, nsB hns, ⟨mb, nsB hb, hbb⟩, let ⟨mc, h1, h2⟩ := hlim; ⟨mc, nsB h1, h2⟩⟩
  have gP : mainGlobals ≠ Pt := fun z => by
    obtain ⟨o, es, ep, e, hd, _⟩ := hns
    rw [z, hT] at e
    cases e
    cases hd
  have TB : TabB (hidT s₁.heap H) mg c Pt := by
    refine ⟨?_, ?_, gP⟩
    · obtain ⟨o, us, file, tf, flags, tg, inF, text, tt, e1, r1, r2, r3, rest⟩ := C
      refine ⟨o, us, file, tf, flags, tg, inF, text, tt, other e1 (fun _ _ z => by rw [r2] at z; cases z) (fun z => ?_), r1, r2, r3, rest⟩
      rw [r2] at z
      cases z
      simp at r3
    · obtain ⟨bm, ob, b1, b2, b3, b4, b5, b6⟩ := hbm
      refine ⟨bm, ob, b1, b2, fun q => ?_, fun q => ?_, other b3 (fun _ _ z => by rw [b6] at z; cases z) (fun z => by rw [b6] at z; cases z), b4, b5, b6⟩
      · obtain ⟨o, es, ep, e, hd, _⟩ := hns
        rw [q, e] at b3
        cases b3
        rw [hd] at b6
        cases b6
      · rw [q, hT] at b3
        cases b3
        cases b6
  have e0 : Env0 P w K mg (hidT s₁.heap H) callerA [] s₁ H := ⟨rfl, hM, fun b o e => of_hidT e, Nat.le_of_eq (hidT_size _ _), trivial, fun b hb => absurd (show b ∈ ([] : List Addr) from hb) (by simp), hok, .of_eq hg⟩
  refine codeAny_mono (run _ H TB hHP hS e0) fun r s' h => ?_
  match r, h with
  | .ok (.ret u), h =>
    obtain ⟨v, H', os, bare, un, hok', r', q⟩ := h
    have q' : v = .bl true := q
    subst q'
    obtain rfl : u = Value.bool true := r'
    have key : ∀ b o, b ≠ Pt → s₁.heap.get? b = some o → s'.heap.get? b = some o := fun b o nb e => by
      rcases hHn b nb with z | ⟨z1, z2⟩
      · exact un.keep b o e z (by intro y; exact absurd (show b ∈ ([] : List Addr) from y) (by simp)) (by simp)
      · subst z1
        have z3 := un.frzs b _ _ (hHa z2)
        obtain ⟨e2, _⟩ := hok' b _ z3
        rw [ha] at e; cases e
        exact e2
    obtain ⟨more, hm⟩ := un.tbls Pt #[] hHP
    have hm := hok' Pt _ hm
    have hm : s'.heap.get? Pt = some { cls := .none, data := .fields (#[] ++ more) } := hm
    refine ⟨rfl, ⟨fun b o e => ?_, fun b o e => ?_⟩, os, bare⟩
    · by_cases hb : b = Pt
      · subst hb
        rw [hT] at e
        cases e
        exact .inr (.inl ⟨(C.tab hT).isCodeTable, rfl, #[], more, rfl, by rw [hm, Array.empty_append]⟩)
      · exact .inl (key b o hb e)
    · by_cases hb : b = Pt
      · subst hb
        exact ⟨_, hm⟩
      · exact ⟨o, key b o hb e⟩
end K6

/-! KG6 -/
set_option Elab.async false
set_option linter.all false
set_option maxRecDepth 100000
set_option maxHeartbeats 4000000
namespace K6
open PySem PySem.Spec PyProof.Rows L2 LamX
/-- what is known of the law at the head's heap h -/
def LawAtG (l : PySem.W.OpenLaw) (w : World) (K : PySem.W.Frag) (mg : Str → Option Value) (fa : Addr) (h : Heap) : Prop :=
  ∃ c Pt : Addr, h.get? Pt = some { cls := .none, data := .fields #[] } ∧ K.lookup Pt = none ∧ PySem.W.CodeHd h c Pt ∧
    ∀ (s : Shared) (base : Heap) (H : Hp) (a : Addr) (ns : List Int), TabB base mg c Pt → H Pt = some (.tbl #[]) → SqL K H a (ns.map V.int) → Env0 l.prog w K mg base callerA [] s H →
      codeAny (model l.prog w) callerA (.call (.ref fa) ⟨[.ref a], []⟩) (CR C8.CX0 [] l.prog w H s (fun v _ => v = .bl true) C8.E0) s
theorem walk_k61 {l : PySem.W.OpenLaw} {n : Nat} {q : Program} {loose : List Str} {XP : (Str → Option Value) → Heap → Prop} {YP : World → Heap → Prop} {d : DefRec} {K : Params → PySem.W.Frag}
    (hn : l.most = some n) (hn2 : n ≤ sizeLine) (hdf : d.params.defaults = []) (hY : ∀ (w : World) (h : Heap), YP w h → (K w.params).In h)
    (F : ∀ (w : World) (mg : Str → Option Value) (fa : Addr) (h : Heap), YP w h → (K w.params).In h → h.Ns mainGlobals mg → mg d.name = some (.ref fa) → LawAtG l w (K w.params) mg fa h) :
    PySem.W.WalkO q loose XP YP l.row.toRowW d [] (fun f vs => PySem.call f vs) := by
  refine Att.attach_callB hn hdf fun w s₀ s₁ mg mb fa o pm cd doc a vs ns G Y ho hd hcd hmg hobj hints hlen hbits hg => ?_
  have KX := hY w _ Y
  obtain ⟨c, Pt, hT, nT, C, run⟩ := F w mg fa _ Y KX G.T.g hmg
  exact law_end KX G.T.g G.T.b G.T.builtins G.T.nolimit hg hT nT C G.T.bmain hobj hints (Nat.le_trans hlen hn2) fun base H TB hP hS e0 => run s₁ base H a ns TB hP hS e0
theorem df_of {K : PySem.W.Frag} {mg : Str → Option Value} {h : Heap} {x : Str} {st : Stmt} {f : Addr} {oc : Value} {od an : Option Addr} {osl : Array (Option Value)} {kV doc pm cdv ct : Value} (X : K.In h) (G : h.Ns mainGlobals mg)
    (a : PySem.W.nsIn K mainGlobals x = some (some (.ref f))) (l : K.lookup f = some ⟨oc, od, .func (PySem.W.fnOf x x (defArgs st) (defBody st) (defScope st) .none kV doc pm an cdv ct), osl⟩) (c : PySem.W.codeIn K cdv x = true) (k : PySem.W.keepIn K (.ref f) = true) : Df K mg x st :=
  ⟨f, _, fun_mk (st := st) l c k, PySem.W.mg_of X G a⟩
theorem dfm_of {K : PySem.W.Frag} {C : Addr} {x qual : Str} {st : Stmt} {f : Addr} {oc : Value} {od an : Option Addr} {osl : Array (Option Value)} {kV doc pm cdv ct : Value}
    (a : PySem.W.findIn K (.ref C) x = some (some (.ref f))) (i : PySem.W.isFn K (.ref f) = true) (l : K.lookup f = some ⟨oc, od, .func (PySem.W.fnOf x qual (defArgs st) (defBody st) (defScope st) .none kV doc pm an cdv ct), osl⟩) (c : PySem.W.codeIn K cdv qual = true) (k : PySem.W.keepIn K (.ref f) = true) : DfM K C x qual st :=
  ⟨f, _, fun_mk (st := st) l c k, a, i⟩
end K6

/-! KG7 -/
set_option Elab.async false
set_option linter.all false
set_option maxRecDepth 100000
set_option maxHeartbeats 4000000
namespace K6
open PySem PySem.W PySem.Spec PyProof.Rows SupX
/-- the class's own facts, and those of its __init__ -/
theorem suptxt_of {P : Program} {K : Frag} {mg : Str → Option Value} {h : Heap} {C fI : Addr} {qual : Str} {A0 : Arguments} {body : List Stmt} {scope : Scope} (X : K.In h) (G : h.Ns mainGlobals mg)
    {nm q : Str} {N : Addr} {bs bm : List Value} {sn : List Str} {sb : List Value} {ab : Bool} {col : Option Bool} {dd : Option Addr} {k0 k1 k2 k3 k5 : Option Value}
    {oc : Value} {od : Option Addr} {doc pm : Value} {an : Option Addr} {cda : Addr} {ct : Value} {osl : Array (Option Value)} {cc : Addr} {cl : Value} {cld : Option Addr} {csl : Array (Option Value)} {ccl : Value} {cdd : Option Addr} {vs : Array Value} {ccs : Array (Option Value)} {file : Str} {tf : Tok}
    (kl : K.lookup C = some (excClassObj nm q C N bs bm true sn sb ab col dd k0 k1 k2 k3 k5 "ValueError.__new__")) (kb : PySem.HandSPX.refsVE bm = true) (sa : findIn K (.ref C) "__setattr__" = some (some (.builtin "object.__setattr__"))) (exC : subIn K (.ref C) (.type "BaseException") = some true)
    (tyC : typeIn K (.ref C) = some (.type "type")) (kC : keepIn K (.ref C) = true)
    (ga : findIn K (.ref C) "__getattribute__" = some (some (.builtin "BaseException.__getattribute__"))) (gg : findIn K (.ref C) "__getattr__" = some none) (hd : hasDictIn K C = true) (iC : findIn K (.ref C) "__init__" = some (some (.ref fI))) (tI : typeIn K (.ref fI) = some (.type "function"))
    (lF : K.lookup fI = some ⟨oc, od, .func (ksFn "__init__" qual A0 body scope .none .none doc pm an (.ref cda) ct cc), osl⟩) (hcd : codeIn K (.ref cda) qual = true) (lc : K.lookup cc = some ⟨cl, cld, .cell (some (.ref C)), csl⟩) (lo : K.lookup cda = some ⟨ccl, cdd, .fields vs, ccs⟩) (hv : vs[2]? = some (.str file tf)) (hf : ((P.main.file : Str) == file) = true)
    (sub : mroIn K C (.ref C) = some true) (sup : nsIn K mainGlobals "super" = some none) (st : nsIn K cStatics "thirdparty.any" = some none) (si : ks_superIn K C C "__init__" = some (some (.builtin "ValueError.__init__"))) (ve : subIn K (.ref C) (.type "ValueError") = some true)
    (top : (P.main.scope.names.lookup ("super" : Str)).isSome = false) : SupTxt P K mg C fI qual A0 body scope :=
  { T := ⟨⟨nm, q, N, bs, bm, sn, sb, ab, col, dd, k0, k1, k2, k3, k5, kl, kb⟩, sa, exC, tyC, kC⟩, ga := ga, gg := gg, hd := hd, iC := iC, tI := tI, fn := ⟨oc, od, doc, pm, an, cda, ct, osl, cc, cl, cld, csl, ccl, cdd, vs, ccs, file, tf, lF, hcd, lc, lo, hv, hf⟩, sub := sub, sup := sup, ms := mg_none_of X G sup, st := st, si := si, ve := ve, top := top }
theorem sup1_of {P : Program} {w : World} {K : Frag} {mg : Str → Option Value} {h : Heap} {y : Str} {C fI : Addr} {qual : Str} {scope : Scope} {f ms : Str} {j : Nat} {r1 r2 p0 p1 p2 p3 p4 p5 q1 q2 q3 q4 : Pos} {pl : Addr → Addr → Addr → Sem Bool} (X : K.In h) (G : h.Ns mainGlobals mg)
    (a : nsIn K mainGlobals y = some (some (.ref C))) (S : SupTxt P K mg C fI qual (iA1 f r1 r2) (iB1 f ms j p0 p1 p2 p3 p4 p5 q1 q2 q3 q4) scope)
    (noF : findIn K (.ref C) f = some none)
    (hks : scope.names.lookup ("super" : Str) = some .globalImplicit) (hkc : scope.names.lookup ("__class__" : Str) = some .free) (hka : scope.names.lookup ("self" : Str) = some .local) (hkf : scope.names.lookup f = some .local) (hk : scope.kind = .function)
    (hcell : ∀ x ∈ scope.names, x.2 ≠ .cell) (hco : scope.isCoroutine = false) (hgen : scope.isGenerator = false) (hfs : f ≠ "self") (hfd : (f == ("__debug__" : Str)) = false)
    (hbind : ∀ (x : Addr) (v : Value) (cda : Addr) (ct : Value) (cc : Addr) (doc pm : Value) (an : Option Addr), bindArgs (ksFn "__init__" qual (iA1 f r1 r2) (iB1 f ms j p0 p1 p2 p3 p4 p5 q1 q2 q3 q4) scope .none .none doc pm an (.ref cda) ct cc) ⟨[.ref x, v], []⟩ = pure [(("self" : Str), Value.ref x), (f, v)])
    (hi : ∀ (L : Addr) (cda cc : Addr), interactive (ksEnv qual scope L fI (.ref cda) cc) = false) (hsw : ∀ (L : Addr) (cda cc : Addr), swapsWith (supE p0 p1 p2 p3 p4 ms j) none p5.line (ksEnv qual scope L fI (.ref cda) cc) = pure false)
    (he : ∀ (L cda cc : Addr), eval (supE p0 p1 p2 p3 p4 ms j) (ksEnv qual scope L fI (.ref cda) cc) = (do
      let ov ← attributeBase (.Call (.Name "super" p0) [] [] p1) "__init__" (ksEnv qual scope L fI (.ref cda) cc) (eval (.Call (.Name "super" p0) [] [] p1) (ksEnv qual scope L fI (.ref cda) cc))
      standAt p2.atName
      let (f, first) ← holding [ov] (getMethod ov "__init__" (pl L cda cc))
      callWith p4 f first (backTo p4 (starEach [.Constant (.str ms) j p3] (ksEnv qual scope L fI (.ref cda) cc))) []))
    (hs2 : ∀ (L cda cc : Addr), swapsWith (.Name f q3) (some (.Attribute (.Name "self" q1) f q2)) q4.line (ksEnv qual scope L fI (.ref cda) cc) = pure false) : SupC P w K mg y C fI [f] :=
  { gC := mg_of X G a, T := S.T, ga := S.ga, gg := S.gg, hd := S.hd, iC := S.iC, tI := S.tI, noF := fun g hg => by rw [List.mem_singleton.mp hg]; exact noF,
    init := fun A s x t0 us R hl X' G' ⟨mb, B, hb⟩ hlim hx hnx hroom hh hq => by
      match us, hl with
      | [v], _ => exact init1 S X' G' B hb hlim hx hnx hroom hks hkc hka hkf hk hcell hco hgen hfs hfd noF (hbind x v) hi hsw he hs2 hq }
theorem sup2_of {P : Program} {w : World} {K : Frag} {mg : Str → Option Value} {h : Heap} {y : Str} {C fI : Addr} {qual : Str} {scope : Scope} {f1 f2 ms : Str} {j kt kv : Nat} {r1 r2 r3 p0 p1 p2 p3 p4 p5 a1 a2 a3 a4 a5 b1 b2 b3 b4 : Pos} {pl : Addr → Addr → Addr → Sem Bool} (X : K.In h) (G : h.Ns mainGlobals mg)
    (a : nsIn K mainGlobals y = some (some (.ref C))) (S : SupTxt P K mg C fI qual (iA2 f1 f2 r1 r2 r3) (iB2 f1 f2 ms j p0 p1 p2 p3 p4 p5 kt kv a1 a2 a3 a4 a5 b1 b2 b3 b4) scope)
    (no1 : findIn K (.ref C) f1 = some none) (no2 : findIn K (.ref C) f2 = some none)
    (hks : scope.names.lookup ("super" : Str) = some .globalImplicit) (hkc : scope.names.lookup ("__class__" : Str) = some .free) (hka : scope.names.lookup ("self" : Str) = some .local) (hk1 : scope.names.lookup f1 = some .local) (hk2 : scope.names.lookup f2 = some .local) (hk : scope.kind = .function)
    (hcell : ∀ x ∈ scope.names, x.2 ≠ .cell) (hco : scope.isCoroutine = false) (hgen : scope.isGenerator = false) (hs1 : f1 ≠ "self") (hs2 : f2 ≠ "self") (h12 : f1 ≠ f2) (hd1 : (f1 == ("__debug__" : Str)) = false) (hd2 : (f2 == ("__debug__" : Str)) = false)
    (hbind : ∀ (x : Addr) (v1 v2 : Value) (cda : Addr) (ct : Value) (cc : Addr) (doc pm : Value) (an : Option Addr), bindArgs (ksFn "__init__" qual (iA2 f1 f2 r1 r2 r3) (iB2 f1 f2 ms j p0 p1 p2 p3 p4 p5 kt kv a1 a2 a3 a4 a5 b1 b2 b3 b4) scope .none .none doc pm an (.ref cda) ct cc) ⟨[.ref x, v1, v2], []⟩ = pure [(("self" : Str), Value.ref x), (f1, v1), (f2, v2)])
    (hi : ∀ (L : Addr) (cda cc : Addr), interactive (ksEnv qual scope L fI (.ref cda) cc) = false) (hsw : ∀ (L : Addr) (cda cc : Addr), swapsWith (supE p0 p1 p2 p3 p4 ms j) none p5.line (ksEnv qual scope L fI (.ref cda) cc) = pure false)
    (he : ∀ (L cda cc : Addr), eval (supE p0 p1 p2 p3 p4 ms j) (ksEnv qual scope L fI (.ref cda) cc) = (do
      let ov ← attributeBase (.Call (.Name "super" p0) [] [] p1) "__init__" (ksEnv qual scope L fI (.ref cda) cc) (eval (.Call (.Name "super" p0) [] [] p1) (ksEnv qual scope L fI (.ref cda) cc))
      standAt p2.atName
      let (f, first) ← holding [ov] (getMethod ov "__init__" (pl L cda cc))
      callWith p4 f first (backTo p4 (starEach [.Constant (.str ms) j p3] (ksEnv qual scope L fI (.ref cda) cc))) []))
    (hsS : ∀ (L cda cc : Addr), swapsWithSole [.Tuple [.Attribute (.Name "self" a1) f1 a2, .Attribute (.Name "self" a3) f2 a4] kt a5] (.Tuple [.Name f1 b1, .Name f2 b2] kv b3) b4.line (ksEnv qual scope L fI (.ref cda) cc) = pure false)
    (hwS : ∀ (L cda cc : Addr), swappedStores [.Tuple [.Attribute (.Name "self" a1) f1 a2, .Attribute (.Name "self" a3) f2 a4] kt a5] (.Tuple [.Name f1 b1, .Name f2 b2] kv b3) (ksEnv qual scope L fI (.ref cda) cc) = pure none) : SupC P w K mg y C fI [f1, f2] :=
  { gC := mg_of X G a, T := S.T, ga := S.ga, gg := S.gg, hd := S.hd, iC := S.iC, tI := S.tI, noF := fun g hg => by
      rcases List.mem_cons.mp hg with e | e
      · rw [e]; exact no1
      · rw [List.mem_singleton.mp e]; exact no2,
    init := fun A s x t0 us R hl X' G' ⟨mb, B, hb⟩ hlim hx hnx hroom hh hq => by
      match us, hl with
      | [v1, v2], _ => exact init2 S X' G' B hb hlim hx hnx hroom hh hks hkc hka hk1 hk2 hk hcell hco hgen hs1 hs2 h12 hd1 hd2 no1 no2 (hbind x v1 v2) hi hsw he hsS hwS hq }
theorem kit_of {K : Frag} {t : Value} {C : Addr} {b : Bool} (i : isClsIn K C = true) (ty : typeIn K (.ref C) = some (.type "type")) (s : subIn K t (.ref C) = some b) (hb : ((t == Value.ref C) && !b) = false) : kitOne K t (.ref C) = some b := by
  unfold kitOne
  by_cases e : (t == Value.ref C) = true
  · rw [if_pos e]
    rw [e] at hb
    cases b with
    | true => rfl
    | false => cases hb
  · rw [if_neg e]
    show (if ((clsIn K C).isSome && typeIn K (.ref C) == some (.type "type")) = true then subIn K t (.ref C) else none) = some b
    have i' : (clsIn K C).isSome = true := i
    rw [i', ty, if_pos (by decide), s]
theorem exm_of {K : Frag} {D C : Addr} (h1 : subIn K (.ref C) (.type "BaseException") = some true) (i : isClsIn K C = true) (ty : typeIn K (.ref C) = some (.type "type")) (s : subIn K (.ref D) (.ref C) = some true) : exmOne K (.ref D) (.ref C) = some true := by
  unfold exmOne
  rw [h1, if_pos (by decide)]
  show (if ((clsIn K C).isSome && typeIn K (.ref C) == some (.type "type")) = true then subIn K (.ref D) (.ref C) else none) = some true
  have i' : (clsIn K C).isSome = true := i
  rw [i', ty, if_pos (by decide), s]
theorem tabc_of {K : Frag} {mg : Str → Option Value} {h : Heap} {C : Addr} (X : K.In h) (G : h.Ns mainGlobals mg) (a : nsIn K mainGlobals "Table" = some (some (.ref C)))
    (pg : plainGet K C Str.empty = true) (hd : hasDictIn K C = true) (po : plainOver K C = true) (sa : findIn K (.ref C) "__setattr__" = some (some (.builtin "object.__setattr__")))
    (nL : findIn K (.ref C) "lamps" = some none) (nG : findIn K (.ref C) "goals" = some none) (ha : findIn K (.ref C) "__class__" = some (some (.builtin "object.__class__"))) (hn : specialIn K (.builtin "object.__class__") "__get__" = some (some (.builtin "getset_descriptor.__get__")))
    (ht : takesIn K (.builtin "object.__class__") = some true) (hm : mroIn K C (.type "object") = some true) (i : isClsIn K C = true) (ty : typeIn K (.ref C) = some (.type "type")) (kt : subIn K (.ref C) (.ref C) = some true) (kn : subIn K (.type "NoneType") (.ref C) = some false) (ki : subIn K (.type "int") (.ref C) = some false) (kl : subIn K (.type "list") (.ref C) = some false)
    (ks : subIn K (.type "str") (.ref C) = some false) (kb : subIn K (.type "bool") (.ref C) = some false) : TabC K mg C :=
  ⟨mg_of X G a, ⟨pg, hd, po, sa⟩, nL, nG, ha, hn, ht, hm, kit_of i ty kt (by simp), kit_of i ty kn rfl, kit_of i ty ki rfl, kit_of i ty kl rfl, kit_of i ty ks rfl, kit_of i ty kb rfl⟩
theorem hdx_of {K : Frag} {LE CB CN CM D : Addr} {b n m : Bool} (E : L2.ExcC K D) (h1 : subIn K (.ref LE) (.type "BaseException") = some true) (i0 : isClsIn K LE = true) (t0 : typeIn K (.ref LE) = some (.type "type")) (s0 : subIn K (.ref D) (.ref LE) = some true)
    (i1 : isClsIn K CB = true) (t1 : typeIn K (.ref CB) = some (.type "type")) (s1 : subIn K (.ref D) (.ref CB) = some b) (e1 : ((Value.ref D == Value.ref CB) && !b) = false) (i2 : isClsIn K CN = true) (t2 : typeIn K (.ref CN) = some (.type "type")) (s2 : subIn K (.ref D) (.ref CN) = some n) (e2 : ((Value.ref D == Value.ref CN) && !n) = false)
    (i3 : isClsIn K CM = true) (t3 : typeIn K (.ref CM) = some (.type "type")) (s3 : subIn K (.ref D) (.ref CM) = some m) (e3 : ((Value.ref D == Value.ref CM) && !m) = false) : HdX K LE CB CN CM D b n m :=
  ⟨exm_of h1 i0 t0 s0, E, kit_of i1 t1 s1 e1, kit_of i2 t2 s2 e2, kit_of i3 t3 s3 e3⟩
theorem excc_of {K : Frag} {h : Heap} {D : Addr} (X : K.In h) (hg : findIn K (.ref D) "__getattribute__" = some (some (.builtin "BaseException.__getattribute__"))) (hk : findIn K (.ref D) "__getattr__" = some none) (hs : subIn K (.ref D) (.type "BaseException") = some true) (hd : hasDictIn K D = true)
    (ha : findIn K (.ref D) "__class__" = some (some (.builtin "object.__class__"))) (hn : specialIn K (.builtin "object.__class__") "__get__" = some (some (.builtin "getset_descriptor.__get__"))) (ht : takesIn K (.builtin "object.__class__") = some true) (hm : mroIn K D (.type "object") = some true) : L2.ExcC K D := ⟨hg, hk, hs, hd, ha, hn, ht, hm⟩
end K6

/-! KG8 -/
set_option Elab.async false
set_option linter.all false
set_option maxRecDepth 100000
set_option maxHeartbeats 4000000
namespace K6
open PySem PySem.W PySem.Spec PyProof.Rows L2 LamX
theorem dfmT_of {K : Frag} {mg : Str → Option Value} {C : Addr} {x qual : Str} {st : Stmt} {f : Addr} {oc : Value} {od an : Option Addr} {osl : Array (Option Value)} {kV doc pm cdv ct : Value} (T : TabC K mg C)
    (a : findIn K (.ref C) x = some (some (.ref f))) (i : isFn K (.ref f) = true) (l : K.lookup f = some ⟨oc, od, .func (fnOf x qual (defArgs st) (defBody st) (defScope st) .none kV doc pm an cdv ct), osl⟩) (c : codeIn K cdv qual = true) (k : keepIn K (.ref f) = true) : DfM K C x qual st := dfm_of a i l c k
theorem law_at {l : OpenLaw} {w : World} {K : Frag} {mg : Str → Option Value} {h : Heap} {CT CB CN CM fB fN fM LE f c Pt : Addr} {oc : Value} {od an : Option Addr} {osl : Array (Option Value)} {kV doc pm ct : Value} (X : K.In h)
    (hT : h.get? Pt = some { cls := .none, data := .fields #[] }) (nT : K.lookup Pt = none) (CH : CodeHd h c Pt)
    (lk : K.lookup f = some ⟨oc, od, .func (fnOf "law" "law" (defArgs lLaw) (defBody lLaw) (defScope lLaw) .none kV doc pm an (.ref c) ct), osl⟩) (hcd : codeIn K (.ref c) "law" = true)
    (B : Bt mg) (T : TabC K mg CT) (SB : SupX.SupC l.prog w K mg "BadTable" CB fB ["part"]) (SN : SupX.SupC l.prog w K mg "BadNumber" CN fN ["part"]) (SM : SupX.SupC l.prog w K mg "TooMany" CM fM ["what", "most"]) (hc : HdC K mg LE CB CN CM)
    (m8 : ∃ t, mg "MOST_LAMPS" = some (.int 8 t)) (m59 : ∃ t, mg "MOST_BITS" = some (.int 59 t)) (m7 : ∃ t, mg "MOST_HELPED" = some (.int 7 t))
    (mk : makesIn K CT = true) (kp : keepIn K (.ref CT) = true) (ne : findIn K (.ref CT) "__ne__" = some (some (.builtin "object.__ne__")))
    (DI : DfM K CT "__init__" "Table.__init__" sInit) (DE : DfM K CT "__eq__" "Table.__eq__" sTabEq) (DT : DfT K mg)
    (D_is_integer : Df K mg "is_integer" sIsInteger) (D_is_within : Df K mg "is_within" sIsWithin) (D_is_list : Df K mg "is_list" sIsList) (D_weight_in : Df K mg "weight_in" sWeight) (D_class_in : Df K mg "class_in" sClass) (D_is_odd_in : Df K mg "is_odd_in" sOdd) (D_other_bits : Df K mg "other_bits" sOther) (D_gate_bits : Df K mg "gate_bits" sGate) (D_first_one : Df K mg "first_one" sFirst) (D_hands_in : Df K mg "hands_in" sHands) (D_mixed_in : Df K mg "mixed_in" sMixed) (D_free_in : Df K mg "free_in" sFreeIn) (D_made_by_one : Df K mg "made_by_one" sMade) (D_choices_in : Df K mg "choices_in" sChoices) (D_goals_with : Df K mg "goals_with" sGoalsWith) (D_cycles_in : Df K mg "cycles_in" sCycles) (D_parities_in : Df K mg "parities_in" sParIn) (D_need_number : Df K mg "need_number" sNeedNum) (D_need_lamps : Df K mg "need_lamps" sNeedLamps) (D_need_burns : Df K mg "need_burns" sNeedBurns) (D_are_unlike : Df K mg "are_unlike" sUnlike) (D_are_goals : Df K mg "are_goals" sAreGoals) (D_still : Df K mg "still" sStill) (D_parities_of : Df K mg "parities_of" sParOf) (D_hands_of : Df K mg "hands_of" sHandsOf) (D_need_bits : Df K mg "need_bits" sNeedBits) (D_due_in : Df K mg "due_in" sDueIn) (D_astray_in : Df K mg "astray_in" sAstray) (D_helped_in : Df K mg "helped_in" sHelpedIn) (D_free_choices : Df K mg "free_choices" sFreeCh) (D_need_few : Df K mg "need_few" sNeedFew) (D_helped : Df K mg "helped" sHelped) (D_shows_helped : Df K mg "shows_helped" sShows) (D__law_harbour : Df K mg "_law_harbour" lHarb) (D__law_buoy_by : Df K mg "_law_buoy_by" lBuoy) (D__law_pick : Df K mg "_law_pick" lPick) (D__law_weight : Df K mg "_law_weight" lWeight) (D__law_classes : Df K mg "_law_classes" lClasses) (D__law_goals : Df K mg "_law_goals" lGoals) (D__law_parities : Df K mg "_law_parities" lPars) (D__law_is_one : Df K mg "_law_is_one" lIsOne) (D__law_helped_right : Df K mg "_law_helped_right" lRight) (D__law_heard : Df K mg "_law_heard" lHeard)
    : LawAtG l w K mg f h := by
  refine ⟨c, Pt, hT, nT, CH, fun s base H a ns TB hP hS e0 => ?_⟩
  have c_is_integer := ok_is_integer (P := l.prog) (w := w) (base := base) D_is_integer B.isinstance B.int B.bool
  have c_is_within := ok_is_within D_is_within c_is_integer
  have c_is_list := ok_is_list (P := l.prog) (w := w) (base := base) D_is_list B
  have c_weight_in := ok_weight_in (P := l.prog) (w := w) (base := base) D_weight_in
  have c_class_in := ok_class_in D_class_in B c_weight_in
  have c_is_odd_in := ok_is_odd_in (P := l.prog) (w := w) (base := base) D_is_odd_in
  have c_other_bits := ok_other_bits D_other_bits B c_is_odd_in
  have c_gate_bits := ok_gate_bits D_gate_bits B c_is_odd_in
  have c_first_one := ok_first_one (P := l.prog) (w := w) (base := base) D_first_one B
  have c_hands_in := ok_hands_in D_hands_in B c_other_bits c_first_one
  have c_mixed_in := ok_mixed_in (P := l.prog) (w := w) (base := base) D_mixed_in B
  have c_free_in := ok_free_in D_free_in B c_mixed_in
  have c_made := ok_made D_made_by_one B c_gate_bits
  have c_choices := ok_choices D_choices_in B c_free_in c_made
  have c_goals_with := ok_goals_with D_goals_with B c_class_in
  have c_cycles := ok_cycles (P := l.prog) (w := w) (base := base) D_cycles_in B
  have c_par_in := ok_par_in D_parities_in B c_cycles c_weight_in
  have c_need_num := ok_need_num D_need_number SN c_is_within
  have c_need_lamps := ok_need_lamps D_need_lamps m8 c_need_num
  have c_need_burns := ok_need_burns D_need_burns c_need_num
  have c_need_table := ok_need_table (base := base) DT B T SB
  have c_unlike := ok_unlike (P := l.prog) (w := w) (base := base) D_are_unlike B
  have c_are_goals := ok_are_goals D_are_goals B c_is_list c_is_within c_unlike c_weight_in
  have c_Table := ok_init DI mk kp B T SB c_need_lamps c_are_goals
  have c_still := ok_still D_still B c_need_lamps c_Table
  have EC : EqC l.prog w K mg base CT := ⟨ok_tab_eq DE B T, ne⟩
  have c_par_of := ok_par_of D_parities_of T c_need_table c_par_in
  have c_hands_of := ok_hands_of D_hands_of T c_need_table c_par_of c_hands_in
  have c_need_bits := ok_need_bits (base := base) D_need_bits B SN m59 c_is_list c_is_within
  have c_due := ok_due (P := l.prog) (w := w) (base := base) D_due_in B T
  have c_astray := ok_astray D_astray_in B T c_due
  have c_helped_in := ok_helped_in D_helped_in B T c_par_in c_choices c_goals_with c_Table
  have c_free_ch := ok_free_ch D_free_choices c_need_bits c_need_burns c_choices
  have c_need_few := ok_need_few D_need_few T SM m7 c_need_table c_need_burns
  have c_helped := ok_helped D_helped T SM m7 c_need_table c_need_burns c_helped_in
  have c_shows := ok_shows D_shows_helped B T c_need_few c_astray c_hands_of
  have c_harb := ok_harb (P := l.prog) (w := w) (base := base) D__law_harbour B
  have c_buoy := ok_buoy (P := l.prog) (w := w) (base := base) D__law_buoy_by B
  have c_pick := ok_pick D__law_pick B c_buoy
  have c_lweight := ok_lweight (P := l.prog) (w := w) (base := base) D__law_weight B
  have c_classes := ok_classes D__law_classes B c_lweight
  have c_lgoals := ok_lgoals D__law_goals B c_buoy c_classes
  have c_lpars := ok_lpars D__law_parities B c_classes
  have c_lisone := ok_lisone (P := l.prog) (w := w) (base := base) D__law_is_one B
  have c_right := ok_right D__law_helped_right B B.repr B.sorted T EC c_Table c_helped c_shows c_free_ch c_lpars c_lisone c_lweight
  exact run_law lk hcd TB B T hc D__law_heard c_harb c_buoy c_pick c_lgoals c_right c_Table c_still c_helped c_shows rfl ⟨rfl, by decide, by decide⟩ e0 (BindsTo.of_eq rfl) hP hS
end K6

/-! KG9 -/
set_option Elab.async false
set_option linter.all false
set_option maxRecDepth 100000
set_option maxHeartbeats 4000000
namespace K6
open PySem PySem.W PySem.Spec PyProof.Rows L2 LamX
theorem dft_of {K : Frag} {mg : Str → Option Value} {h : Heap} {f T0 : Addr} {oc : Value} {od an : Option Addr} {osl : Array (Option Value)} {kV doc pm cdv ct tc : Value} {td : Option Addr} {n : Nat} {tk : Tok} {tsl : Array (Option Value)} (X : K.In h) (G : h.Ns mainGlobals mg)
    (a : nsIn K mainGlobals "need_table" = some (some (.ref f))) (l : K.lookup f = some ⟨oc, od, .func (fnOf "need_table" "need_table" (defArgs sNeedTable) (defBody sNeedTable) (defScope sNeedTable) (.ref T0) kV doc pm an cdv ct), osl⟩) (c : codeIn K cdv "need_table" = true) (k : keepIn K (.ref f) = true)
    (t : K.lookup T0 = some ⟨tc, td, .seq #[.str "table" tk] n, tsl⟩) : DfT K mg :=
  ⟨f, _, ⟨⟨oc, od, .ref T0, kV, doc, pm, an, cdv, ct, osl, rfl, l, c, .inr ⟨by simp, T0, _, [.str "table" tk], n, rfl, t, rfl, .cons ⟨tk, rfl⟩ .nil⟩, .inl rfl⟩, k⟩, mg_of X G a⟩
theorem excS_of {P : Program} {w : World} {K : Frag} {mg : Str → Option Value} {x : Str} {C fI CT : Addr} {names : List Str} (S : SupX.SupC P w K mg x C fI names) (T : TabC K mg CT) (ha : findIn K (.ref C) "__class__" = some (some (.builtin "object.__class__"))) (hm : mroIn K C (.type "object") = some true) : ExcC K C :=
  ⟨S.ga, S.gg, S.T.exC, S.hd, ha, T.hn, T.ht, hm⟩
theorem hdc_of {P : Program} {w : World} {K : Frag} {mg : Str → Option Value} {h : Heap} {LE CT CB CN CM fB fN fM : Addr} (X : K.In h) (G : h.Ns mainGlobals mg) (T : TabC K mg CT) (SB : SupX.SupC P w K mg "BadTable" CB fB ["part"]) (SN : SupX.SupC P w K mg "BadNumber" CN fN ["part"]) (SM : SupX.SupC P w K mg "TooMany" CM fM ["what", "most"])
    (aL : nsIn K mainGlobals "LampError" = some (some (.ref LE)))
    (haB : findIn K (.ref CB) "__class__" = some (some (.builtin "object.__class__"))) (hmB : mroIn K CB (.type "object") = some true) (haN : findIn K (.ref CN) "__class__" = some (some (.builtin "object.__class__"))) (hmN : mroIn K CN (.type "object") = some true) (haM : findIn K (.ref CM) "__class__" = some (some (.builtin "object.__class__"))) (hmM : mroIn K CM (.type "object") = some true)
    (h1 : subIn K (.ref LE) (.type "BaseException") = some true) (i0 : isClsIn K LE = true) (t0 : typeIn K (.ref LE) = some (.type "type")) (lB : subIn K (.ref CB) (.ref LE) = some true) (lN : subIn K (.ref CN) (.ref LE) = some true) (lM : subIn K (.ref CM) (.ref LE) = some true)
    (iB : isClsIn K CB = true) (iN : isClsIn K CN = true) (iM : isClsIn K CM = true)
    (bb : subIn K (.ref CB) (.ref CB) = some true) (bn : subIn K (.ref CB) (.ref CN) = some false) (bm : subIn K (.ref CB) (.ref CM) = some false)
    (nb : subIn K (.ref CN) (.ref CB) = some false) (nn : subIn K (.ref CN) (.ref CN) = some true) (nm : subIn K (.ref CN) (.ref CM) = some false)
    (mb : subIn K (.ref CM) (.ref CB) = some false) (mn : subIn K (.ref CM) (.ref CN) = some false) (mm : subIn K (.ref CM) (.ref CM) = some true)
    (x1 : CB ≠ CN) (x2 : CB ≠ CM) (x3 : CN ≠ CM) : HdC K mg LE CB CN CM := by
  have off : ∀ {a b : Addr}, a ≠ b → ((Value.ref a == Value.ref b) && !false) = false := fun {a b} n => by
    rw [beq_eq_false_iff_ne.mpr (fun z => n (Value.ref.inj z))]; rfl
  have on : ∀ {a : Addr}, ((Value.ref a == Value.ref a) && !true) = false := by intro a; simp
  exact ⟨mg_of X G aL, SB.gC, SN.gC, SM.gC,
    hdx_of (excS_of SB T haB hmB) h1 i0 t0 lB iB SB.T.tyC bb on iN SN.T.tyC bn (off x1) iM SM.T.tyC bm (off x2),
    hdx_of (excS_of SN T haN hmN) h1 i0 t0 lN iB SB.T.tyC nb (off x1.symm) iN SN.T.tyC nn on iM SM.T.tyC nm (off x3),
    hdx_of (excS_of SM T haM hmM) h1 i0 t0 lM iB SB.T.tyC mb (off x2.symm) iN SN.T.tyC mn (off x3.symm) iM SM.T.tyC mm on,
    SB.noF "part" (by simp), SN.noF "part" (by simp), SM.noF "what" (by simp), SM.noF "most" (by simp)⟩
end K6

/-! the top, run -/
section
open PySem PySem.W PyProof.Rows
set_option maxHeartbeats 0 in
open_top k61head for PySem.Challenge.rw_keptlamps_k61_whole_helped_tables
end
open PySem PySem.W PyProof.Rows
set_option maxHeartbeats 0
theorem PySem.Challenge.cw_keptlamps_k61_whole_helped_tables_holds : PySem.Challenge.rw_keptlamps_k61_whole_helped_tables.Holds :=
  k61head (by
  k_fill
  refine K6.walk_k61 (l := PySem.Challenge.rw_keptlamps_k61_whole_helped_tables) (n := 63) rfl (by decide) rfl (fun w h Y => PySem.W.km_in_of Y) ?F
  intro w mg fa h Y KX G hmg
  have D_is_integer := K6.df_of (x := "is_integer") (st := K6.sIsInteger) KX G (by k_is) (by k_is) (by k_is) (by k_is)
  have D_is_within := K6.df_of (x := "is_within") (st := K6.sIsWithin) KX G (by k_is) (by k_is) (by k_is) (by k_is)
  have D_is_list := K6.df_of (x := "is_list") (st := K6.sIsList) KX G (by k_is) (by k_is) (by k_is) (by k_is)
  have D_weight_in := K6.df_of (x := "weight_in") (st := K6.sWeight) KX G (by k_is) (by k_is) (by k_is) (by k_is)
  have D_class_in := K6.df_of (x := "class_in") (st := K6.sClass) KX G (by k_is) (by k_is) (by k_is) (by k_is)
  have D_is_odd_in := K6.df_of (x := "is_odd_in") (st := K6.sOdd) KX G (by k_is) (by k_is) (by k_is) (by k_is)
  have D_other_bits := K6.df_of (x := "other_bits") (st := K6.sOther) KX G (by k_is) (by k_is) (by k_is) (by k_is)
  have D_gate_bits := K6.df_of (x := "gate_bits") (st := K6.sGate) KX G (by k_is) (by k_is) (by k_is) (by k_is)
  have D_first_one := K6.df_of (x := "first_one") (st := K6.sFirst) KX G (by k_is) (by k_is) (by k_is) (by k_is)
  have D_hands_in := K6.df_of (x := "hands_in") (st := K6.sHands) KX G (by k_is) (by k_is) (by k_is) (by k_is)
  have D_mixed_in := K6.df_of (x := "mixed_in") (st := K6.sMixed) KX G (by k_is) (by k_is) (by k_is) (by k_is)
  have D_free_in := K6.df_of (x := "free_in") (st := K6.sFreeIn) KX G (by k_is) (by k_is) (by k_is) (by k_is)
  have D_made_by_one := K6.df_of (x := "made_by_one") (st := K6.sMade) KX G (by k_is) (by k_is) (by k_is) (by k_is)
  have D_choices_in := K6.df_of (x := "choices_in") (st := K6.sChoices) KX G (by k_is) (by k_is) (by k_is) (by k_is)
  have D_goals_with := K6.df_of (x := "goals_with") (st := K6.sGoalsWith) KX G (by k_is) (by k_is) (by k_is) (by k_is)
  have D_cycles_in := K6.df_of (x := "cycles_in") (st := K6.sCycles) KX G (by k_is) (by k_is) (by k_is) (by k_is)
  have D_parities_in := K6.df_of (x := "parities_in") (st := K6.sParIn) KX G (by k_is) (by k_is) (by k_is) (by k_is)
  have D_need_number := K6.df_of (x := "need_number") (st := K6.sNeedNum) KX G (by k_is) (by k_is) (by k_is) (by k_is)
  have D_need_lamps := K6.df_of (x := "need_lamps") (st := K6.sNeedLamps) KX G (by k_is) (by k_is) (by k_is) (by k_is)
  have D_need_burns := K6.df_of (x := "need_burns") (st := K6.sNeedBurns) KX G (by k_is) (by k_is) (by k_is) (by k_is)
  have D_are_unlike := K6.df_of (x := "are_unlike") (st := K6.sUnlike) KX G (by k_is) (by k_is) (by k_is) (by k_is)
  have D_are_goals := K6.df_of (x := "are_goals") (st := K6.sAreGoals) KX G (by k_is) (by k_is) (by k_is) (by k_is)
  have D_still := K6.df_of (x := "still") (st := K6.sStill) KX G (by k_is) (by k_is) (by k_is) (by k_is)
  have D_parities_of := K6.df_of (x := "parities_of") (st := K6.sParOf) KX G (by k_is) (by k_is) (by k_is) (by k_is)
  have D_hands_of := K6.df_of (x := "hands_of") (st := K6.sHandsOf) KX G (by k_is) (by k_is) (by k_is) (by k_is)
  have D_need_bits := K6.df_of (x := "need_bits") (st := K6.sNeedBits) KX G (by k_is) (by k_is) (by k_is) (by k_is)
  have D_due_in := K6.df_of (x := "due_in") (st := K6.sDueIn) KX G (by k_is) (by k_is) (by k_is) (by k_is)
  have D_astray_in := K6.df_of (x := "astray_in") (st := K6.sAstray) KX G (by k_is) (by k_is) (by k_is) (by k_is)
  have D_helped_in := K6.df_of (x := "helped_in") (st := K6.sHelpedIn) KX G (by k_is) (by k_is) (by k_is) (by k_is)
  have D_free_choices := K6.df_of (x := "free_choices") (st := K6.sFreeCh) KX G (by k_is) (by k_is) (by k_is) (by k_is)
  have D_need_few := K6.df_of (x := "need_few") (st := K6.sNeedFew) KX G (by k_is) (by k_is) (by k_is) (by k_is)
  have D_helped := K6.df_of (x := "helped") (st := K6.sHelped) KX G (by k_is) (by k_is) (by k_is) (by k_is)
  have D_shows_helped := K6.df_of (x := "shows_helped") (st := K6.sShows) KX G (by k_is) (by k_is) (by k_is) (by k_is)
  have D__law_harbour := K6.df_of (x := "_law_harbour") (st := K6.lHarb) KX G (by k_is) (by k_is) (by k_is) (by k_is)
  have D__law_buoy_by := K6.df_of (x := "_law_buoy_by") (st := K6.lBuoy) KX G (by k_is) (by k_is) (by k_is) (by k_is)
  have D__law_pick := K6.df_of (x := "_law_pick") (st := K6.lPick) KX G (by k_is) (by k_is) (by k_is) (by k_is)
  have D__law_weight := K6.df_of (x := "_law_weight") (st := K6.lWeight) KX G (by k_is) (by k_is) (by k_is) (by k_is)
  have D__law_classes := K6.df_of (x := "_law_classes") (st := K6.lClasses) KX G (by k_is) (by k_is) (by k_is) (by k_is)
  have D__law_goals := K6.df_of (x := "_law_goals") (st := K6.lGoals) KX G (by k_is) (by k_is) (by k_is) (by k_is)
  have D__law_parities := K6.df_of (x := "_law_parities") (st := K6.lPars) KX G (by k_is) (by k_is) (by k_is) (by k_is)
  have D__law_is_one := K6.df_of (x := "_law_is_one") (st := K6.lIsOne) KX G (by k_is) (by k_is) (by k_is) (by k_is)
  have D__law_helped_right := K6.df_of (x := "_law_helped_right") (st := K6.lRight) KX G (by k_is) (by k_is) (by k_is) (by k_is)
  have D__law_heard := K6.df_of (x := "_law_heard") (st := K6.lHeard) KX G (by k_is) (by k_is) (by k_is) (by k_is)
  have B : K6.Bt mg := ⟨PySem.W.mg_none_of KX G (by k_is), PySem.W.mg_none_of KX G (by k_is), PySem.W.mg_none_of KX G (by k_is), PySem.W.mg_none_of KX G (by k_is), PySem.W.mg_none_of KX G (by k_is), PySem.W.mg_none_of KX G (by k_is), PySem.W.mg_none_of KX G (by k_is), PySem.W.mg_none_of KX G (by k_is), PySem.W.mg_none_of KX G (by k_is), PySem.W.mg_none_of KX G (by k_is), PySem.W.mg_none_of KX G (by k_is), PySem.W.mg_none_of KX G (by k_is), PySem.W.mg_none_of KX G (by k_is), PySem.W.mg_none_of KX G (by k_is), PySem.W.mg_none_of KX G (by k_is), PySem.W.mg_none_of KX G (by k_is)⟩
  have T := K6.tabc_of KX G (by k_is) (by k_is) (by k_is) (by k_is) (by k_is) (by k_is) (by k_is) (by k_is) (by k_is) (by k_is) (by k_is) (by k_is) (by k_is) (by k_is) (by k_is) (by k_is) (by k_is) (by k_is) (by k_is)
  have S_BadTable := K6.sup1_of (P := PySem.Challenge.rw_keptlamps_k61_whole_helped_tables.prog) (w := w) (y := "BadTable") KX G (by k_is) (K6.suptxt_of KX G (by k_is) (by decide +kernel) (by k_is) (by k_is) (by k_is) (by k_is) (by k_is) (by k_is) (by k_is) (by k_is) (by k_is) (by k_is) (by k_is) (by k_is) (by k_is) (by rfl) (by decide +kernel) (by k_is) (by k_is) (by k_is) (by kernel_rfl) (by k_is) (by rfl)) (by k_is) rfl rfl rfl rfl rfl (by decide +kernel) rfl rfl (by decide) (by decide) (fun _ _ _ _ _ _ _ _ => rfl) (fun _ _ _ => rfl) (fun _ _ _ => rfl) (fun _ _ _ => rfl) (fun _ _ _ => rfl)
  have S_BadNumber := K6.sup1_of (P := PySem.Challenge.rw_keptlamps_k61_whole_helped_tables.prog) (w := w) (y := "BadNumber") KX G (by k_is) (K6.suptxt_of KX G (by k_is) (by decide +kernel) (by k_is) (by k_is) (by k_is) (by k_is) (by k_is) (by k_is) (by k_is) (by k_is) (by k_is) (by k_is) (by k_is) (by k_is) (by k_is) (by rfl) (by decide +kernel) (by k_is) (by k_is) (by k_is) (by kernel_rfl) (by k_is) (by rfl)) (by k_is) rfl rfl rfl rfl rfl (by decide +kernel) rfl rfl (by decide) (by decide) (fun _ _ _ _ _ _ _ _ => rfl) (fun _ _ _ => rfl) (fun _ _ _ => rfl) (fun _ _ _ => rfl) (fun _ _ _ => rfl)
  have S_TooMany := K6.sup2_of (P := PySem.Challenge.rw_keptlamps_k61_whole_helped_tables.prog) (w := w) (y := "TooMany") KX G (by k_is) (K6.suptxt_of KX G (by k_is) (by decide +kernel) (by k_is) (by k_is) (by k_is) (by k_is) (by k_is) (by k_is) (by k_is) (by k_is) (by k_is) (by k_is) (by k_is) (by k_is) (by k_is) (by rfl) (by decide +kernel) (by k_is) (by k_is) (by k_is) (by kernel_rfl) (by k_is) (by rfl)) (by k_is) (by k_is) rfl rfl rfl rfl rfl rfl (by decide +kernel) rfl rfl (by decide) (by decide) (by decide) (by decide) (by decide) (fun _ _ _ _ _ _ _ _ _ => rfl) (fun _ _ _ => rfl) (fun _ _ _ => rfl) (fun _ _ _ => rfl) (fun _ _ _ => rfl) (fun _ _ _ => rfl)
  have c8 := PySem.W.mg_of KX G (n := "MOST_LAMPS") (v := .int 8 _) (by k_is)
  have c59 := PySem.W.mg_of KX G (n := "MOST_BITS") (v := .int 59 _) (by k_is)
  have c7 := PySem.W.mg_of KX G (n := "MOST_HELPED") (v := .int 7 _) (by k_is)
  have HC := K6.hdc_of KX G T S_BadTable S_BadNumber S_TooMany (by k_is) (by k_is) (by k_is) (by k_is) (by k_is) (by k_is) (by k_is) (by k_is) (by k_is) (by k_is) (by k_is) (by k_is) (by k_is) (by k_is) (by k_is) (by k_is) (by k_is) (by k_is) (by k_is) (by k_is) (by k_is) (by k_is) (by k_is) (by k_is) (by k_is) (by decide) (by decide) (by decide)
  have DI := K6.dfmT_of (x := "__init__") (qual := "Table.__init__") (st := K6.sInit) T (by k_is) (by k_is) (by k_is) (by k_is) (by k_is)
  have DE := K6.dfmT_of (x := "__eq__") (qual := "Table.__eq__") (st := K6.sTabEq) T (by k_is) (by k_is) (by k_is) (by k_is) (by k_is)
  have DT := K6.dft_of KX G (by k_is) (by k_is) (by k_is) (by k_is) (by k_is)
  have tab := PySem.W.km_tabs_of Y
  have aL := PySem.W.mg_of KX G (n := "law") (v := .ref _) (by k_is)
  have eL := Option.some.inj (hmg.symm.trans aL)
  injection eL with eL
  subst eL
  exact K6.law_at KX (tab 521 (by simp)) (by kernel_rfl) (PySem.W.codeHd_of_K KX (by kernel_rfl)) (by k_is) (by k_is) B T S_BadTable S_BadNumber S_TooMany HC ⟨_, c8⟩ ⟨_, c59⟩ ⟨_, c7⟩ (by k_is) (by k_is) (by k_is) DI DE DT D_is_integer D_is_within D_is_list D_weight_in D_class_in D_is_odd_in D_other_bits D_gate_bits D_first_one D_hands_in D_mixed_in D_free_in D_made_by_one D_choices_in D_goals_with D_cycles_in D_parities_in D_need_number D_need_lamps D_need_burns D_are_unlike D_are_goals D_still D_parities_of D_hands_of D_need_bits D_due_in D_astray_in D_helped_in D_free_choices D_need_few D_helped D_shows_helped D__law_harbour D__law_buoy_by D__law_pick D__law_weight D__law_classes D__law_goals D__law_parities D__law_is_one D__law_helped_right D__law_heard)
