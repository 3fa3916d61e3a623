import PyProof.Rows.All
import Wide.All
import OpenK.AllK
import Wide.FinOn
import HandS.ForMost
import HandS.IsInst
import HandS.Wide
import HandS.SetFor
import HandS.Conv
import HandS.Evl
import PySem.Challenge.RW_triesagain_k51_whole_least_expected
set_option Elab.async false
set_option linter.all false
set_option maxRecDepth 100000
set_option maxHeartbeats 4000000
/-! Plain mathematics of the law: rows of chances, what is expected of them, in whole numbers over one denominator; orders; lowest terms. -/
namespace K51
structure Ch where
  r : Nat
  f : Nat
  c : Nat
def Ch.ok (x : Ch) : Prop := x.r ≤ 1000 ∧ x.f ≤ x.r ∧ 1 ≤ x.c ∧ x.c ≤ 100000
def Ch.n (x : Ch) : Nat := x.r + 2
def Ch.q (x : Ch) : Nat := x.r + 1 - x.f
/-- the product of the denominators -/
def NN : List Ch → Nat
  | [] => 1
  | x :: xs => x.n * NN xs
def QQ : List Ch → Nat
  | [] => 1
  | x :: xs => x.q * QQ xs
/-- what is expected, times NN -/
def EE : List Ch → Nat
  | [] => 0
  | x :: xs => x.c * (x.n * NN xs) + x.q * EE xs
theorem n_pos (x : Ch) : 0 < x.n := by unfold Ch.n; omega
theorem NN_pos : ∀ xs, 0 < NN xs
  | [] => by decide
  | x :: xs => Nat.mul_pos (n_pos x) (NN_pos xs)
theorem q_pos {x : Ch} (h : x.ok) : 0 < x.q := by
  obtain ⟨_, h, _⟩ := h
  unfold Ch.q
  omega
theorem NN_perm {xs ys : List Ch} (h : xs.Perm ys) : NN xs = NN ys := by
  induction h with
  | nil => rfl
  | cons x _ ih => simp only [NN, ih]
  | swap x y l => simp only [NN]; rw [← Nat.mul_assoc, ← Nat.mul_assoc, Nat.mul_comm y.n]
  | trans _ _ a b => exact a.trans b
/-- a is no worse ahead of b -/
def LE (a b : Ch) : Prop := a.c * a.n * (b.f + 1) ≤ b.c * b.n * (a.f + 1)
instance (a b : Ch) : Decidable (LE a b) := inferInstanceAs (Decidable (_ ≤ _))
theorem LE.total (a b : Ch) : LE a b ∨ LE b a := Nat.le_total _ _
theorem LE.trans {a b d : Ch} (h1 : LE a b) (h2 : LE b d) : LE a d := by
  unfold LE at *
  have e1 := Nat.mul_le_mul_right (d.f + 1) h1
  have e2 := Nat.mul_le_mul_right (a.f + 1) h2
  have e3 : a.c * a.n * (d.f + 1) * (b.f + 1) ≤ d.c * d.n * (a.f + 1) * (b.f + 1) := by
    calc a.c * a.n * (d.f + 1) * (b.f + 1) = a.c * a.n * (b.f + 1) * (d.f + 1) := by rw [Nat.mul_right_comm]
      _ ≤ b.c * b.n * (a.f + 1) * (d.f + 1) := e1
      _ = b.c * b.n * (d.f + 1) * (a.f + 1) := by rw [Nat.mul_right_comm]
      _ ≤ d.c * d.n * (b.f + 1) * (a.f + 1) := e2
      _ = d.c * d.n * (a.f + 1) * (b.f + 1) := by rw [Nat.mul_right_comm]
  exact Nat.le_of_mul_le_mul_right e3 (by omega)
theorem n_eq {x : Ch} (h : x.ok) : x.n = x.q + (x.f + 1) := by
  obtain ⟨_, h, _⟩ := h
  unfold Ch.n Ch.q
  omega
/-- two neighbours changed about -/
theorem swap_eq {a b : Ch} (ha : a.ok) (hb : b.ok) (xs : List Ch) :
    EE (a :: b :: xs) + b.c * b.n * (a.f + 1) * NN xs = EE (b :: a :: xs) + a.c * a.n * (b.f + 1) * NN xs := by
  have ea := n_eq ha
  have eb := n_eq hb
  simp only [EE, NN]
  generalize a.n = an at *
  generalize b.n = bn at *
  subst ea eb
  generalize NN xs = N
  generalize EE xs = E
  generalize a.q = p
  generalize b.q = q
  generalize a.f + 1 = u
  generalize b.f + 1 = v
  simp only [Nat.mul_add, Nat.add_mul]
  simp only [Nat.mul_comm, Nat.mul_left_comm, Nat.mul_assoc, Nat.add_assoc, Nat.add_comm, Nat.add_left_comm]
theorem swap_le {a b : Ch} (ha : a.ok) (hb : b.ok) (h : LE a b) (xs : List Ch) : EE (a :: b :: xs) ≤ EE (b :: a :: xs) := by
  have e := swap_eq ha hb xs
  have k := Nat.mul_le_mul_right (NN xs) h
  omega
theorem swap_lt {a b : Ch} (ha : a.ok) (hb : b.ok) (h : ¬ LE a b) (xs : List Ch) : EE (b :: a :: xs) < EE (a :: b :: xs) := by
  have e := swap_eq ha hb xs
  have k : b.c * b.n * (a.f + 1) * NN xs < a.c * a.n * (b.f + 1) * NN xs := Nat.mul_lt_mul_of_pos_right (Nat.lt_of_not_le h) (NN_pos xs)
  omega
theorem cons_le {x : Ch} {xs ys : List Ch} (hp : xs.Perm ys) (h : EE xs ≤ EE ys) : EE (x :: xs) ≤ EE (x :: ys) := by
  simp only [EE]
  rw [NN_perm hp]
  exact Nat.add_le_add_left (Nat.mul_le_mul_left _ h) _
theorem cons_lt {x : Ch} (hx : x.ok) {xs ys : List Ch} (hp : xs.Perm ys) (h : EE xs < EE ys) : EE (x :: xs) < EE (x :: ys) := by
  simp only [EE]
  rw [NN_perm hp]
  exact Nat.add_lt_add_left (Nat.mul_lt_mul_of_pos_left h (q_pos hx)) _
theorem app_lt : ∀ {pre xs ys : List Ch}, (∀ x ∈ pre, x.ok) → xs.Perm ys → EE xs < EE ys → EE (pre ++ xs) < EE (pre ++ ys)
  | [], _, _, _, _, h => h
  | x :: pre, _, _, hp, p, h => cons_lt (hp x (List.mem_cons_self ..)) (List.Perm.append_left pre p) (app_lt (fun y hy => hp y (List.mem_cons_of_mem _ hy)) p h)
/-- one that is no worse than all ahead of it goes to the front -/
theorem front_le {x : Ch} (hx : x.ok) : ∀ {pre xs : List Ch}, (∀ y ∈ pre, y.ok ∧ LE x y) → EE (x :: (pre ++ xs)) ≤ EE (pre ++ x :: xs)
  | [], _, _ => Nat.le_refl _
  | y :: pre, xs, h => by
    have h1 := h y (List.mem_cons_self ..)
    have ih := front_le hx (pre := pre) (xs := xs) fun z hz => h z (List.mem_cons_of_mem _ hz)
    refine Nat.le_trans (swap_le hx h1.1 h1.2 (pre ++ xs)) ?_
    exact cons_le List.perm_middle.symm ih
/-- falling all along: neighbours tell it -/
def Falls : List Ch → Prop
  | [] => True
  | [_] => True
  | a :: b :: xs => LE a b ∧ Falls (b :: xs)
theorem Falls.tail {a : Ch} : ∀ {xs : List Ch}, Falls (a :: xs) → Falls xs
  | [], _ => trivial
  | _ :: _, h => h.2
theorem LE.refl (a : Ch) : LE a a := Nat.le_refl _
theorem Falls.all : ∀ {xs : List Ch} {a : Ch}, Falls (a :: xs) → ∀ y ∈ xs, LE a y
  | b :: xs, a, h, y, hy => by
    cases hy with
    | head => exact h.1
    | tail _ hy => exact h.1.trans (Falls.all h.2 y hy)
theorem falls_least : ∀ {xs ys : List Ch}, (∀ x ∈ xs, x.ok) → Falls xs → xs.Perm ys → EE xs ≤ EE ys
  | [], ys, _, _, p => by
    rw [List.nil_perm.mp p]
    exact Nat.le_refl _
  | x :: xs, ys, hok, hf, p => by
    have hx : x ∈ ys := p.mem_iff.mp (List.mem_cons_self ..)
    obtain ⟨as, bs, rfl⟩ := List.append_of_mem hx
    have p2 : (x :: xs).Perm (x :: (as ++ bs)) := p.trans List.perm_middle
    have p3 : xs.Perm (as ++ bs) := (List.perm_cons x).mp p2
    have ih := falls_least (fun y hy => hok y (List.mem_cons_of_mem _ hy)) hf.tail p3
    refine Nat.le_trans (cons_le p3 ih) (front_le (hok x (List.mem_cons_self ..)) fun y hy => ?_)
    have hy2 : y ∈ xs := p3.mem_iff.mpr (List.mem_append_left _ hy)
    exact ⟨hok y (List.mem_cons_of_mem _ hy2), hf.all y hy2⟩
/-- where they don't fall, two neighbours changed about make it less -/
theorem grows_more : ∀ {xs : List Ch}, (∀ x ∈ xs, x.ok) → ¬ Falls xs → ∃ pre a b post, xs = pre ++ a :: b :: post ∧ EE (pre ++ b :: a :: post) < EE xs
  | [], _, h => absurd trivial h
  | [_], _, h => absurd trivial h
  | a :: b :: xs, hok, h => by
    by_cases c : LE a b
    · have h2 : ¬ Falls (b :: xs) := fun z => h ⟨c, z⟩
      obtain ⟨pre, u, v, post, e, l⟩ := grows_more (fun y hy => hok y (List.mem_cons_of_mem _ hy)) h2
      refine ⟨a :: pre, u, v, post, by rw [e]; rfl, ?_⟩
      have p : (pre ++ v :: u :: post).Perm (b :: xs) := by
        rw [e]
        exact List.Perm.append_left pre (List.Perm.swap u v post)
      exact cons_lt (hok a (List.mem_cons_self ..)) p l
    · exact ⟨[], a, b, xs, rfl, swap_lt (hok a (List.mem_cons_self ..)) (hok b (List.mem_cons_of_mem _ (List.mem_cons_self ..))) c xs⟩

/-! ### one more at the end -/
theorem NN_snoc (xs : List Ch) (x : Ch) : NN (xs ++ [x]) = NN xs * x.n := by
  induction xs with
  | nil => simp [NN]
  | cons y ys ih => simp only [List.cons_append, NN, ih, Nat.mul_assoc]
theorem QQ_snoc (xs : List Ch) (x : Ch) : QQ (xs ++ [x]) = QQ xs * x.q := by
  induction xs with
  | nil => simp [QQ]
  | cons y ys ih => simp only [List.cons_append, QQ, ih, Nat.mul_assoc]
theorem EE_snoc (xs : List Ch) (x : Ch) : EE (xs ++ [x]) = x.n * (EE xs + x.c * QQ xs) := by
  induction xs with
  | nil => simp [EE, NN, QQ, Nat.mul_comm]
  | cons y ys ih =>
    simp only [List.cons_append, EE, ih, NN_snoc, QQ]
    simp only [Nat.mul_add, Nat.add_mul, Nat.mul_comm, Nat.mul_left_comm, Nat.mul_assoc, Nat.add_assoc]
theorem NN_app (xs ys : List Ch) : NN (xs ++ ys) = NN xs * NN ys := by
  induction xs with
  | nil => simp [NN]
  | cons y t ih => simp only [List.cons_append, NN, ih, Nat.mul_assoc]
/-- the law's own sum so far: over the whole denominator -/
theorem EE_app (xs ys : List Ch) : EE (xs ++ ys) = EE xs * NN ys + QQ xs * EE ys := by
  induction xs with
  | nil => simp [EE, QQ]
  | cons y t ih =>
    simp only [List.cons_append, EE, ih, NN_app, QQ]
    simp only [Nat.mul_add, Nat.add_mul, Nat.mul_comm, Nat.mul_left_comm, Nat.mul_assoc, Nat.add_assoc]
theorem NN_le : ∀ {xs : List Ch}, (∀ x ∈ xs, x.ok) → NN xs ≤ 1002 ^ xs.length
  | [], _ => Nat.le_refl _
  | x :: xs, h => by
    have ih := NN_le fun y hy => h y (List.mem_cons_of_mem x hy)
    have h1 := (h x (List.mem_cons_self ..)).1
    have h2 : x.n ≤ 1002 := by unfold Ch.n; omega
    simp only [NN, List.length_cons, Nat.pow_succ]
    rw [Nat.mul_comm (1002 ^ xs.length)]
    exact Nat.mul_le_mul h2 ih
theorem QQ_le : ∀ {xs : List Ch}, (∀ x ∈ xs, x.ok) → QQ xs ≤ NN xs
  | [], _ => Nat.le_refl _
  | x :: xs, h => by
    have ih := QQ_le fun y hy => h y (List.mem_cons_of_mem x hy)
    have h2 : x.q ≤ x.n := by unfold Ch.n Ch.q; omega
    exact Nat.mul_le_mul h2 ih
theorem EE_le : ∀ {xs : List Ch}, (∀ x ∈ xs, x.ok) → EE xs ≤ xs.length * 100000 * NN xs
  | [], _ => Nat.zero_le _
  | x :: xs, h => by
    have ih := EE_le fun y hy => h y (List.mem_cons_of_mem x hy)
    have h1 := (h x (List.mem_cons_self ..)).2.2.2
    have h2 : x.q ≤ x.n := by unfold Ch.n Ch.q; omega
    simp only [EE, NN, List.length_cons]
    have e1 : x.c * (x.n * NN xs) ≤ 100000 * (x.n * NN xs) := Nat.mul_le_mul_right _ h1
    have e2 : x.q * EE xs ≤ x.n * (xs.length * 100000 * NN xs) := Nat.mul_le_mul h2 ih
    have e3 : (xs.length + 1) * 100000 * (x.n * NN xs) = 100000 * (x.n * NN xs) + x.n * (xs.length * 100000 * NN xs) := by
      simp only [Nat.add_mul, Nat.mul_add, Nat.one_mul, Nat.mul_comm, Nat.mul_left_comm, Nat.mul_assoc, Nat.add_comm]
    omega
theorem QQ_pos : ∀ {xs : List Ch}, (∀ x ∈ xs, x.ok) → 0 < QQ xs
  | [], _ => by decide
  | x :: xs, h => Nat.mul_pos (q_pos (h x (List.mem_cons_self ..))) (QQ_pos fun y hy => h y (List.mem_cons_of_mem x hy))

/-! ### lowest terms -/
def low (a b : Nat) : Nat × Nat := (a / Nat.gcd a b, b / Nat.gcd a b)
theorem low_mul {a b k : Nat} (hk : 0 < k) : low (k * a) (k * b) = low a b := by
  unfold low
  rw [Nat.gcd_mul_left, Nat.mul_div_mul_left _ _ hk, Nat.mul_div_mul_left _ _ hk]
theorem low_cross {a b : Nat} : (low a b).1 * b = a * (low a b).2 := by
  have h1 : (low a b).1 * Nat.gcd a b = a := Nat.div_mul_cancel (Nat.gcd_dvd_left a b)
  have h2 : (low a b).2 * Nat.gcd a b = b := Nat.div_mul_cancel (Nat.gcd_dvd_right a b)
  generalize low a b = p at *
  calc p.1 * b = p.1 * (p.2 * Nat.gcd a b) := by rw [h2]
    _ = p.1 * Nat.gcd a b * p.2 := by rw [Nat.mul_assoc, Nat.mul_comm p.2]
    _ = a * p.2 := by rw [h1]
theorem low_pos {a b : Nat} (hb : 0 < b) : 0 < (low a b).2 := Nat.div_pos (Nat.gcd_le_right a hb) (Nat.gcd_pos_of_pos_right a hb)
theorem low_of_cross {a b c d : Nat} (hb : 0 < b) (hd : 0 < d) (h : a * d = c * b) : low a b = low c d := by
  rw [← low_mul (a := a) (b := b) hd, ← low_mul (a := c) (b := d) hb, Nat.mul_comm d a, Nat.mul_comm b c, h, Nat.mul_comm d b]
theorem low_le1 {a b : Nat} : (low a b).1 ≤ a := Nat.div_le_self _ _
theorem low_le2 {a b : Nat} : (low a b).2 ≤ b := Nat.div_le_self _ _
/-- over one denominator lowest terms tell numbers apart -/
theorem low_inj {a c b : Nat} (hb : 0 < b) (h : low a b = low c b) : a = c := by
  have h1 := low_cross (a := a) (b := b)
  have h2 := low_cross (a := c) (b := b)
  rw [h] at h1
  have h3 : a * (low c b).2 = c * (low c b).2 := h1.symm.trans h2
  exact Nat.eq_of_mul_eq_mul_right (low_pos hb) h3
theorem low_lt {a c b : Nat} (hb : 0 < b) : (low a b).1 * (low c b).2 < (low c b).1 * (low a b).2 ↔ a < c := by
  have h1 := low_cross (a := a) (b := b)
  have h2 := low_cross (a := c) (b := b)
  have p1 := low_pos (a := a) hb
  have p2 := low_pos (a := c) hb
  generalize low a b = s at *
  generalize low c b = t at *
  have pp : 0 < s.2 * t.2 := Nat.mul_pos p1 p2
  have e1 : s.1 * t.2 * b = a * (s.2 * t.2) := by
    rw [Nat.mul_right_comm, h1, Nat.mul_assoc]
  have e2 : t.1 * s.2 * b = c * (s.2 * t.2) := by
    rw [Nat.mul_right_comm, h2, Nat.mul_assoc, Nat.mul_comm t.2]
  constructor
  · intro h
    have h3 := Nat.mul_lt_mul_of_pos_right h hb
    rw [e1, e2] at h3
    exact Nat.lt_of_mul_lt_mul_right h3
  · intro h
    have h3 := Nat.mul_lt_mul_of_pos_right h pp
    rw [← e1, ← e2] at h3
    exact Nat.lt_of_mul_lt_mul_right h3
/-- one turn of expected -/
theorem turn_spent {E N Q : Nat} (x : Ch) (hN : 0 < N) :
    low ((low E N).1 * (low Q N).2 + x.c * (low Q N).1 * (low E N).2) ((low E N).2 * (low Q N).2) = low (x.n * (E + x.c * Q)) (N * x.n) := by
  have h1 := low_cross (a := E) (b := N)
  have h2 := low_cross (a := Q) (b := N)
  have p1 := low_pos (a := E) hN
  have p2 := low_pos (a := Q) hN
  generalize low E N = s at *
  generalize low Q N = t at *
  refine low_of_cross (Nat.mul_pos p1 p2) (Nat.mul_pos hN (n_pos x)) ?_
  generalize x.n = n
  generalize x.c = c
  have e1 : (s.1 * t.2 + c * t.1 * s.2) * (N * n) = n * (s.1 * N * t.2 + c * (t.1 * N) * s.2) := by
    simp only [Nat.mul_add, Nat.add_mul, Nat.mul_comm, Nat.mul_left_comm, Nat.mul_assoc]
  rw [e1, h1, h2]
  simp only [Nat.mul_add, Nat.add_mul, Nat.mul_comm, Nat.mul_left_comm, Nat.mul_assoc]
theorem turn_left {N Q : Nat} (x : Ch) (hN : 0 < N) : low ((low Q N).1 * x.q) ((low Q N).2 * x.n) = low (Q * x.q) (N * x.n) := by
  have h2 := low_cross (a := Q) (b := N)
  have p2 := low_pos (a := Q) hN
  generalize low Q N = t at *
  refine low_of_cross (Nat.mul_pos p2 (n_pos x)) (Nat.mul_pos hN (n_pos x)) ?_
  have e1 : t.1 * x.q * (N * x.n) = t.1 * N * (x.q * x.n) := by simp only [Nat.mul_comm, Nat.mul_left_comm, Nat.mul_assoc]
  rw [e1, h2]
  simp only [Nat.mul_comm, Nat.mul_left_comm, Nat.mul_assoc]

/-! ### orders -/
/-- all orders of the first k, as the law makes them -/
def allO : Nat → List (List Nat)
  | 0 => [[]]
  | k + 1 => (allO k).flatMap fun o => (List.range (k + 1)).map fun i => o.take i ++ [k] ++ o.drop i
theorem allO_perm : ∀ {k : Nat} {o : List Nat}, o ∈ allO k → o.Perm (List.range k)
  | 0, o, h => by
    rw [List.mem_singleton.mp h]
    exact List.Perm.refl _
  | k + 1, o, h => by
    obtain ⟨u, hu, h2⟩ := List.mem_flatMap.mp h
    obtain ⟨i, hi, rfl⟩ := List.mem_map.mp h2
    have ih := allO_perm hu
    rw [List.range_succ, List.append_assoc]
    have p1 : (u.take i ++ ([k] ++ u.drop i)).Perm (k :: (u.take i ++ u.drop i)) := List.perm_middle
    rw [List.take_append_drop] at p1
    exact p1.trans ((ih.cons k).trans (List.perm_append_singleton k (List.range k)).symm)
theorem allO_all : ∀ {k : Nat} {o : List Nat}, o.Perm (List.range k) → o ∈ allO k
  | 0, o, h => by
    have e : o = [] := List.perm_nil.mp h
    rw [e]
    exact List.mem_singleton.mpr rfl
  | k + 1, o, h => by
    have hk : k ∈ o := h.mem_iff.mpr (List.mem_range.mpr (Nat.lt_succ_self k))
    obtain ⟨as, bs, rfl⟩ := List.append_of_mem hk
    rw [List.range_succ] at h
    have p2 : (k :: (as ++ bs)).Perm (k :: List.range k) := List.perm_middle.symm.trans (h.trans (List.perm_append_singleton k (List.range k)))
    have p3 : (as ++ bs).Perm (List.range k) := (List.perm_cons k).mp p2
    have ih := allO_all p3
    have hl : as.length + bs.length = k := by
      have := p3.length_eq
      rw [List.length_append, List.length_range] at this
      exact this
    refine List.mem_flatMap.mpr ⟨as ++ bs, ih, List.mem_map.mpr ⟨as.length, List.mem_range.mpr (by omega), ?_⟩⟩
    rw [List.take_left, List.drop_left, List.append_assoc]
    rfl
theorem allO_len : ∀ {k : Nat} {o : List Nat}, o ∈ allO k → o.length = k := fun h => by
  have := (allO_perm h).length_eq
  rw [List.length_range] at this
  exact this
theorem allO_ne (k : Nat) : allO k ≠ [] := fun h => by
  have := allO_all (k := k) (List.Perm.refl _)
  rw [h] at this
  cases this

/-! ### a deck's chances by an order -/
def ch (cs : List Ch) (i : Nat) : Ch := cs.getD i ⟨0, 0, 1⟩
def pick (cs : List Ch) (o : List Nat) : List Ch := o.map (ch cs)
theorem ch_get {cs : List Ch} {i : Nat} (h : i < cs.length) : cs[i]? = some (ch cs i) := by
  unfold ch
  rw [List.getElem?_eq_getElem h, List.getD_eq_getElem?_getD, List.getElem?_eq_getElem h]
  rfl
theorem ch_mem {cs : List Ch} {i : Nat} (h : i < cs.length) : ch cs i ∈ cs := List.mem_of_getElem? (ch_get h)
theorem lt_of_perm {n : Nat} {o : List Nat} (p : o.Perm (List.range n)) {i : Nat} (h : i ∈ o) : i < n := List.mem_range.mp (p.mem_iff.mp h)
theorem nodup_of_perm {n : Nat} {o : List Nat} (p : o.Perm (List.range n)) : o.Nodup := p.nodup_iff.mpr List.nodup_range
theorem len_of_perm {n : Nat} {o : List Nat} (p : o.Perm (List.range n)) : o.length = n := by
  have := p.length_eq
  rw [List.length_range] at this
  exact this
theorem pick_ok {cs : List Ch} (ok : ∀ x ∈ cs, x.ok) {o : List Nat} (h : ∀ i ∈ o, i < cs.length) : ∀ x ∈ pick cs o, x.ok := fun x hx => by
  obtain ⟨i, hi, rfl⟩ := List.mem_map.mp hx
  exact ok _ (ch_mem (h i hi))
theorem pick_range (cs : List Ch) : pick cs (List.range cs.length) = cs := by
  refine List.ext_getElem? fun i => ?_
  unfold pick
  rw [List.getElem?_map]
  by_cases h : i < cs.length
  · rw [List.getElem?_range h, ch_get h]
    rfl
  · rw [List.getElem?_eq_none (by rw [List.length_range]; omega), List.getElem?_eq_none (by omega)]
    rfl
theorem pick_perm {cs : List Ch} {o o2 : List Nat} (h : o.Perm o2) : (pick cs o).Perm (pick cs o2) := h.map _
theorem pick_NN {cs : List Ch} {o : List Nat} (h : o.Perm (List.range cs.length)) : NN (pick cs o) = NN cs := by
  rw [NN_perm (pick_perm h), pick_range]
theorem falls_iff : ∀ {xs : List Ch}, Falls xs ↔ ∀ (j : Nat) a b, xs[j]? = some a → xs[j + 1]? = some b → LE a b
  | [] => ⟨(fun _ _ _ _ h => by cases h), fun _ => trivial⟩
  | [x] => ⟨(fun _ j a b _ h => by cases j <;> cases h), fun _ => trivial⟩
  | x :: y :: xs => by
    have ih := falls_iff (xs := y :: xs)
    constructor
    · intro h j a b ha hb
      cases j with
      | zero =>
        cases ha
        cases hb
        exact h.1
      | succ j => exact ih.mp h.2 j a b ha hb
    · intro h
      exact ⟨h 0 x y rfl rfl, ih.mpr fun j a b ha hb => h (j + 1) a b ha hb⟩
theorem falls_pick {cs : List Ch} {o : List Nat} : Falls (pick cs o) ↔ ∀ (j i k : Nat), o[j]? = some i → o[j + 1]? = some k → LE (ch cs i) (ch cs k) := by
  rw [falls_iff]
  constructor
  · intro h j i k hi hk
    refine h j _ _ ?_ ?_
    · unfold pick; rw [List.getElem?_map, hi]; rfl
    · unfold pick; rw [List.getElem?_map, hk]; rfl
  · intro h j a b ha hb
    unfold pick at ha hb
    rw [List.getElem?_map, Option.map_eq_some_iff] at ha hb
    obtain ⟨i, hi, rfl⟩ := ha
    obtain ⟨k, hk, rfl⟩ := hb
    exact h j i k hi hk
/-- one more at the end, no better than the last ones -/
theorem falls_snoc {cs : List Ch} {o : List Nat} {b : Nat} (h : Falls (pick cs o)) (hb : ∀ x ∈ o, LE (ch cs x) (ch cs b)) : Falls (pick cs (o ++ [b])) := by
  rw [falls_pick] at h ⊢
  intro j i k hi hk
  by_cases hj : j + 1 < o.length
  · rw [List.getElem?_append_left (by omega)] at hi
    rw [List.getElem?_append_left hj] at hk
    exact h j i k hi hk
  · have hk2 := (List.getElem?_eq_some_iff.mp hk).1
    rw [List.length_append, List.length_singleton] at hk2
    have e : j + 1 = o.length := by omega
    rw [e, List.getElem?_append_right (Nat.le_refl _), Nat.sub_self] at hk
    cases hk
    rw [List.getElem?_append_left (by omega)] at hi
    exact hb i (List.mem_of_getElem? hi)
theorem erase_at {α : Type} (l1 : List α) (b : α) (l2 : List α) : (l1 ++ b :: l2).eraseIdx l1.length = l1 ++ l2 := by
  induction l1 with
  | nil => rfl
  | cons x xs ih => simp only [List.cons_append, List.length_cons, List.eraseIdx_cons_succ, ih]
/-- THE LAW over all orders of the deck: falling is having the least -/
theorem falls_is_least {cs : List Ch} (ok : ∀ x ∈ cs, x.ok) {o : List Nat} (ho : o ∈ allO cs.length) : Falls (pick cs o) ↔ ∀ o2 ∈ allO cs.length, EE (pick cs o) ≤ EE (pick cs o2) := by
  have hp := allO_perm ho
  have hok := pick_ok ok fun i hi => lt_of_perm hp hi
  constructor
  · intro h o2 h2
    exact falls_least hok h (pick_perm (hp.trans (allO_perm h2).symm))
  · intro h
    by_cases c : Falls (pick cs o)
    · exact c
    · obtain ⟨pre, a, b, post, e, l⟩ := grows_more hok c
      obtain ⟨o1, r1, e1, e2, e3⟩ := List.map_eq_append_iff.mp e
      obtain ⟨i, r2, e4, e5, e6⟩ := List.map_eq_cons_iff.mp e3
      obtain ⟨j, r3, e7, e8, e9⟩ := List.map_eq_cons_iff.mp e6
      have hp2 : (o1 ++ j :: i :: r3).Perm o := by
        rw [e1, e4, e7]
        exact List.Perm.append_left o1 (List.Perm.swap i j r3)
      have k := h _ (allO_all (hp2.trans hp))
      have e10 : pick cs (o1 ++ j :: i :: r3) = pre ++ b :: a :: post := by
        unfold pick
        rw [List.map_append, List.map_cons, List.map_cons, e2, e5, e8, e9]
      rw [e10] at k
      exact absurd l (Nat.not_lt.mpr k)
end K51
namespace K51
open PySem PySem.Spec PyProof.Rows L2
/-! ### the text by its places -/
def topS (i : Nat) : Stmt := PySem.Challenge.pw_triesagain_k51_whole_least_expected.main.body.getD i (.Pass ⟨0, 0, 0, 0⟩)
abbrev sWh : Stmt := topS 6
theorem scWh : FnScope ["thing", "least", "most"] ["thing", "least", "most"] (defScope sWh) := ⟨rfl, rfl, rfl, by decide +kernel, rfl, by decide +kernel, by decide +kernel⟩
abbrev sRw : Stmt := topS 7
theorem scRw : FnScope ["thing"] ["thing"] (defScope sRw) := ⟨rfl, rfl, rfl, by decide +kernel, rfl, by decide +kernel, by decide +kernel⟩
abbrev sIc : Stmt := topS 12
theorem scIc : FnScope ["thing"] ["thing"] (defScope sIc) := ⟨rfl, rfl, rfl, by decide +kernel, rfl, by decide +kernel, by decide +kernel⟩
abbrev sAk : Stmt := topS 13
theorem scAk : FnScope ["chances", "at"] ["chances"] (defScope sAk) := ⟨rfl, rfl, rfl, by decide +kernel, rfl, by decide +kernel, by decide +kernel⟩
abbrev sIo : Stmt := topS 14
theorem scIo : FnScope ["thing", "many", "at"] ["thing", "many"] (defScope sIo) := ⟨rfl, rfl, rfl, by decide +kernel, rfl, by decide +kernel, by decide +kernel⟩
abbrev sCm : Stmt := topS 15
theorem scCm : FnScope ["one", "other"] ["one", "other"] (defScope sCm) := ⟨rfl, rfl, rfl, by decide +kernel, rfl, by decide +kernel, by decide +kernel⟩
abbrev sLw : Stmt := topS 16
theorem scLw : FnScope ["above", "below", "share"] ["above", "below"] (defScope sLw) := ⟨rfl, rfl, rfl, by decide +kernel, rfl, by decide +kernel, by decide +kernel⟩
abbrev sEx : Stmt := topS 17
theorem scEx : FnScope ["chances", "order", "spent", "left", "index", "runs", "faults", "cost"] ["chances", "order"] (defScope sEx) := ⟨rfl, rfl, rfl, by decide +kernel, rfl, by decide +kernel, by decide +kernel⟩
abbrev sAb : Stmt := topS 19
theorem scAb : FnScope ["one", "other"] ["one", "other"] (defScope sAb) := ⟨rfl, rfl, rfl, by decide +kernel, rfl, by decide +kernel, by decide +kernel⟩
abbrev sIb : Stmt := topS 20
theorem scIb : FnScope ["chances", "order", "at"] ["chances", "order"] (defScope sIb) := ⟨rfl, rfl, rfl, by decide +kernel, rfl, by decide +kernel, by decide +kernel⟩
abbrev sBo : Stmt := topS 21
theorem scBo : FnScope ["chances", "left", "found", "best", "index"] ["chances"] (defScope sBo) := ⟨rfl, rfl, rfl, by decide +kernel, rfl, by decide +kernel, by decide +kernel⟩
abbrev sDk : Stmt := topS 23
theorem scDk : FnScope ["_law_script", "_law_many", "_law_row", "_law_odd", "_law_deck_here", "_law_k", "_law_at", "_law_one"] ["_law_script", "_law_many"] (defScope sDk) := ⟨rfl, rfl, rfl, by decide +kernel, rfl, by decide +kernel, by decide +kernel⟩
abbrev sLc : Stmt := topS 24
theorem scLc : FnScope ["_law_draw", "_law_more", "_law_runs", "_law_faults"] ["_law_draw", "_law_more"] (defScope sLc) := ⟨rfl, rfl, rfl, by decide +kernel, rfl, by decide +kernel, by decide +kernel⟩
abbrev sLs : Stmt := topS 25
theorem scLs : FnScope ["_law_deck_here", "_law_many", "_law_found", "_law_k", "_law_draw"] ["_law_deck_here", "_law_many"] (defScope sLs) := ⟨rfl, rfl, rfl, by decide +kernel, rfl, by decide +kernel, by decide +kernel⟩
abbrev sTr : Stmt := topS 27
theorem scTr : FnScope ["_law_found", "_law_due"] ["_law_found", "_law_due"] (defScope sTr) := ⟨rfl, rfl, rfl, by decide +kernel, rfl, by decide +kernel, by decide +kernel⟩
abbrev sDv : Stmt := topS 28
theorem scDv : FnScope ["_law_one", "_law_other"] ["_law_one", "_law_other"] (defScope sDv) := ⟨rfl, rfl, rfl, by decide +kernel, rfl, by decide +kernel, by decide +kernel⟩
abbrev sSp : Stmt := topS 29
theorem scSp : FnScope ["_law_chances_here", "_law_order_here", "_law_below", "_law_runs", "_law_faults", "_law_cost", "_law_above", "_law_left", "_law_index", "_law_share"] ["_law_chances_here", "_law_order_here"] (defScope sSp) := ⟨rfl, rfl, rfl, by decide +kernel, rfl, by decide +kernel, by decide +kernel⟩
abbrev sAo : Stmt := topS 30
theorem scAo : FnScope ["_law_many", "_law_found", "_law_k", "_law_longer", "_law_order_here", "_law_at"] ["_law_many"] (defScope sAo) := ⟨rfl, rfl, rfl, by decide +kernel, rfl, by decide +kernel, by decide +kernel⟩
abbrev sAl : Stmt := topS 31
theorem scAl : FnScope ["_law_chances_here", "_law_deck_here", "_law_draw", "_law_found", "_law_k", "_law_runs", "_law_faults", "_law_cost"] ["_law_chances_here", "_law_deck_here"] (defScope sAl) := ⟨rfl, rfl, rfl, by decide +kernel, rfl, by decide +kernel, by decide +kernel⟩
abbrev sLa : Stmt := topS 32
theorem scLa : FnScope ["_law_script", "_law_deck_here", "_law_draw", "_law_chances_here", "_law_orders", "_law_sums", "_law_least", "_law_one", "_law_k", "_law_at", "_law_best", "_law_order_here"] ["_law_script"] (defScope sLa) := ⟨rfl, rfl, rfl, by decide +kernel, rfl, by decide +kernel, by decide +kernel⟩
/-! ### what the top holds -/
structure Tx (mg : Str → Option Value) : Prop where
  isi : mg "isinstance" = none
  int : mg "int" = none
  bool : mg "bool" = none
  list : mg "list" = none
  tuple : mg "tuple" = none
  len : mg "len" = none
  range : mg "range" = none
  chances : ∃ t, mg "MOST_CHANCES" = some (.int 40 t)
  runs : ∃ t, mg "MOST_RUNS" = some (.int 1000 t)
  cost : ∃ t, mg "MOST_COST" = some (.int 100000 t)
/-- a def of the top: where it stands, its name, how its arguments bind -/
structure De (K : PySem.W.Frag) (mg : Str → Option Value) (x : Str) (st : Stmt) (ps : List Str) (f : Addr) (fd : FuncData) : Prop where
  F : Fun K x x st f fd
  g : mg x = some (.ref f)
  b : Binds K fd ps []
/-! ### heaps -/
theorem same_upd {H : Hp} {p : Addr} {o : HO} (h : H p = none) : Same H (upd H p o) := fun b x e => by
  rw [upd_ne (ne_of_none e h)]
  exact e
/-- what H does not know may change -/
theorem same_mut {H H' : Hp} {p : Addr} {o : HO} (s : Same H H') (h : H p = none) : Same H (upd H' p o) := fun b x e => by
  rw [upd_ne (ne_of_none e h)]
  exact s b x e
/-- all but what stands at d -/
def But (d : Addr) (H H' : Hp) : Prop := ∀ b o, H b = some o → b ≠ d → H' b = some o
theorem But.refl {d : Addr} (H : Hp) : But d H H := fun _ _ h _ => h
theorem But.trans {d : Addr} {H H1 H2 : Hp} (a : But d H H1) (b : But d H1 H2) : But d H H2 := fun c o h n => b c o (a c o h n) n
theorem But.of {d : Addr} {H H' : Hp} (s : Same H H') : But d H H' := fun b o h _ => s b o h
theorem But.upd {d : Addr} {H H' : Hp} {o : HO} (s : But d H H') : But d H (upd H' d o) := fun b x h n => by
  rw [upd_ne n]
  exact s b x h n
theorem iteP {p : Prop} [Decidable p] {A B : Prop} (hp : p) (h : A) : if decide p = true then A else B := by
  rw [if_pos (decide_eq_true hp)]
  exact h
theorem iteN {p : Prop} [Decidable p] {A B : Prop} (hp : ¬ p) (h : B) : if decide p = true then A else B := by
  rw [if_neg (by rw [decide_eq_false hp]; exact Bool.false_ne_true)]
  exact h
abbrev vI (n : Nat) : V := V.int (n : Int)
/-- a list or a tuple -/
def Sq (H : Hp) (a : Addr) (xs : List V) : Prop := H a = some (.lst xs) ∨ H a = some (.tup xs)
theorem Sq.same {H H' : Hp} {a : Addr} {xs : List V} (s : Same H H') (h : Sq H a xs) : Sq H' a xs := h.elim (fun z => .inl (s _ _ z)) (fun z => .inr (s _ _ z))
/-- a chance, a list of chances, a list of orders -/
def ChAt (H : Hp) (p : Addr) (x : Ch) : Prop := H p = some (.tup [vI x.r, vI x.f, vI x.c])
def ChsAt (H : Hp) (a : Addr) (cs : List Ch) : Prop := ∃ ps : List Addr, H a = some (.lst (ps.map V.ref)) ∧ ps.length = cs.length ∧ ∀ (i : Nat) p x, ps[i]? = some p → cs[i]? = some x → ChAt H p x
theorem ChsAt.same {H H' : Hp} {a : Addr} {cs : List Ch} (s : Same H H') (h : ChsAt H a cs) : ChsAt H' a cs := by
  obtain ⟨ps, h1, h2, h3⟩ := h
  exact ⟨ps, s _ _ h1, h2, fun i p x a b => s _ _ (h3 i p x a b)⟩
/-- one of them by its place -/
theorem ChsAt.get {H : Hp} {a : Addr} {cs : List Ch} (h : ChsAt H a cs) {i : Nat} {x : Ch} (hi : cs[i]? = some x) : ∃ (vs : List V) (p : Addr), H a = some (.lst vs) ∧ vs.length = cs.length ∧ vs[i]? = some (.ref p) ∧ ChAt H p x := by
  obtain ⟨ps, h1, h2, h3⟩ := h
  have hl : i < ps.length := by
    rw [h2]
    exact (List.getElem?_eq_some_iff.mp hi).1
  refine ⟨ps.map V.ref, ps[i], h1, by rw [List.length_map, h2], ?_, h3 i _ x (List.getElem?_eq_getElem hl) hi⟩
  rw [List.getElem?_map, List.getElem?_eq_getElem hl]
  rfl
theorem ChsAt.list {H : Hp} {a : Addr} {cs : List Ch} (h : ChsAt H a cs) : ∃ vs : List V, H a = some (.lst vs) ∧ vs.length = cs.length := by
  obtain ⟨ps, h1, h2, h3⟩ := h
  exact ⟨_, h1, by rw [List.length_map, h2]⟩
/-! ### rules for a list or a tuple -/
section
variable {X : Cx}
def rIxA : R2 := fun x y H Q => ∃ p xs i v, x = .ref p ∧ y = .int i ∧ Sq H p xs ∧ atI xs i = some v ∧ Q v H
theorem ix_any : IxR X rIxA := by
  intro ve se pins s σ H x y v u Q I rx ry h k
  obtain ⟨p, xs, i, z, e1, e2, hs, ha, q⟩ := h
  rcases hs with hs | hs
  · exact ix_list ve se pins s σ H x y v u Q I rx ry ⟨p, xs, i, z, e1, e2, SqL.of hs, ha, q⟩ k
  · exact ix_tup ve se pins s σ H x y v u Q I rx ry ⟨p, xs, i, z, e1, e2, SqT.of hs, ha, q⟩ k
end
/-! ### a loop over range(n) -/
theorem for_up {n : Nat} {g : TG} {tb : TS} {D : Ends} {σ : L2.St} {H : Hp} (Pv : Nat → L2.St → Hp → Prop) (h0 : Pv 0 σ H)
    (hs : ∀ (i : Nat) σ H, i < n → Pv i σ H → g (vI i) σ H fun σ2 H2 => tb { D with nx := Pv (i + 1), ct := Pv (i + 1), bk := D.nx } σ2 H2) (hd : ∀ σ H, Pv n σ H → D.nx σ H) :
    ∃ W : Nat → Nat → L2.St → Hp → Prop, (∃ m, W 0 m σ H) ∧ ∀ i m σ H, W i m σ H →
      ((Itr 0 n).stop i H ∧ D.nx σ H) ∨ ((Itr 0 n).go i H ∧ ∃ N : L2.St → Hp → Prop, (∀ σ' H', N σ' H' → ∃ m', m' < m ∧ W (i + 1) m' σ' H') ∧ ∀ x H', (Itr 0 n).yld i H x H' → g x σ H' fun σ2 H2 => tb { D with nx := N, ct := N, bk := D.nx } σ2 H2) :=
  for_range (lo := 0) Pv h0 (fun i σ H hi p => by
    rw [Int.zero_add]
    exact hs i σ H hi p) hd
end K51
namespace K51
open PySem PySem.Spec PyProof.Rows L2
section
variable {P : Program} {w : World} {K : PySem.W.Frag} {mg : Str → Option Value} {base : Heap}
/-! ### is_whole, is_row, is_chance, ask_chances -/
def spWh : Sp := fun vs H Q _ => ∃ n a b : Int, vs = [.int n, .int a, .int b] ∧ a ≤ n ∧ n ≤ b ∧ Q (.bl true) H
theorem ok_Wh {f : Addr} {fd : FuncData} (D : De K mg "is_whole" sWh ["thing", "least", "most"] f fd) (T : Tx mg) : FnOk P w K mg base CX0 1 f fd ["thing", "least", "most"] spWh := by
  refine D.F.ok scWh (fun vs H Q E h => ?_) (fun cdv A outer s H vs Q E hr h => ?_)
  · obtain ⟨n, a, b, rfl, _⟩ := h
    rfl
  · obtain ⟨n, a, b, rfl, h1, h2, q⟩ := h
    refine ⟨_, (pss_one (ps_ret (pe_and (pe_callB call_isi (by rfl) T.isi boot_isinstance (pa_cons (pv 0) (pa_cons (pe_bltn (v := .ty "int") (by rfl) T.int boot_int rfl) pa_nil))) (pe_and (pe_not (pe_callB call_isi (by rfl) T.isi boot_isinstance (pa_cons (pv 0) (pa_cons (pe_bltn (v := .ty "bool") (by rfl) T.bool boot_bool rfl) pa_nil)))) (pe_one (pe_chain op_le op_le (pv 1) (pv 0) (pv 2))))))), ?_⟩
    refine ⟨.int n, rfl, .int n, .ty "int", .type "int", .type "int", true, rfl, ClsV.ty _, .base (.int n), kit_ty (by decide +kernel), true, rfl, iteT ?_⟩
    refine ⟨.int n, rfl, .int n, .ty "bool", .type "int", .type "bool", false, rfl, ClsV.ty _, .base (.int n), kit_ty (by decide +kernel), false, rfl, true, rfl, iteT ?_⟩
    refine ⟨.int a, rfl, .int n, rfl, a, n, rfl, rfl, _, rfl, iteP h1 ?_⟩
    refine ⟨.int b, rfl, n, b, rfl, rfl, ?_⟩
    show Q (.bl (decide (n ≤ b))) H
    rw [decide_eq_true h2]
    exact q
def spRw : Sp := fun vs H Q _ => ∃ (a : Addr) (xs : List V), vs = [.ref a] ∧ Sq H a xs ∧ ∀ H', Same H H' → Q (.bl true) H'
theorem ok_Rw {f : Addr} {fd : FuncData} (D : De K mg "is_row" sRw ["thing"] f fd) (T : Tx mg) : FnOk P w K mg base CX0 1 f fd ["thing"] spRw := by
  refine D.F.ok scRw (fun vs H Q E h => ?_) (fun cdv A outer s H vs Q E hr h => ?_)
  · obtain ⟨a, xs, rfl, _⟩ := h
    rfl
  · obtain ⟨a, xs, rfl, hs, q⟩ := h
    refine ⟨_, (pss_one (ps_ret (pe_callB call_isiT (by rfl) T.isi boot_isinstance (pa_cons (pv 0) (pa_cons (pe_tup (pa_cons (pe_bltn (v := .ty "list") (by rfl) T.list boot_list rfl) (pa_cons (pe_bltn (v := .ty "tuple") (by rfl) T.tuple boot_tuple rfl) pa_nil))) pa_nil))))), ?_⟩
    refine ⟨.ref a, rfl, (by show 2 ≤ sizeLine; decide), fun t ht => ?_⟩
    have s1 : Same H (upd H t (.tup [.ty "list", .ty "tuple"])) := same_upd ht
    rcases hs with hs | hs
    · exact ⟨.ref a, t, [.ty "list", .ty "tuple"], .type "list", [.type "list", .type "tuple"], true, rfl, upd_same, .cons (.ty _) (.cons (.ty _) .nil), .base (.lst (s1 _ _ hs)),
        kitAny_cons (b := true) (kit_ty (by decide +kernel)) (fun z => nomatch z) (fun _ => rfl), q _ s1⟩
    · exact ⟨.ref a, t, [.ty "list", .ty "tuple"], .type "tuple", [.type "list", .type "tuple"], true, rfl, upd_same, .cons (.ty _) (.cons (.ty _) .nil), .base (.tup (s1 _ _ hs)),
        kitAny_cons (b := false) (kit_ty (by decide +kernel)) (fun _ => kitAny_cons (b := true) (kit_ty (by decide +kernel)) (fun z => nomatch z) (fun _ => rfl)) (fun z => nomatch z), q _ s1⟩
def spIc : Sp := fun vs H Q _ => ∃ (a : Addr) (x : Ch), vs = [.ref a] ∧ ChAt H a x ∧ x.ok ∧ ∀ H', Same H H' → Q (.bl true) H'
theorem ok_Ic {f f1 f2 : Addr} {fd fd1 fd2 : FuncData} (D : De K mg "is_chance" sIc ["thing"] f fd) (T : Tx mg)
    (DRw : De K mg "is_row" sRw ["thing"] f1 fd1) (GRw : FnOk P w K mg base CX0 1 f1 fd1 ["thing"] spRw)
    (DWh : De K mg "is_whole" sWh ["thing", "least", "most"] f2 fd2) (GWh : FnOk P w K mg base CX0 1 f2 fd2 ["thing", "least", "most"] spWh) : FnOk P w K mg base CX0 2 f fd ["thing"] spIc := by
  obtain ⟨tr, mr⟩ := T.runs
  obtain ⟨tc, mk⟩ := T.cost
  refine D.F.ok scIc (fun vs H Q E h => ?_) (fun cdv A outer s H vs Q E hr h => ?_)
  · obtain ⟨a, x, rfl, _⟩ := h
    rfl
  · obtain ⟨a, x, rfl, hx, ok, q⟩ := h
    refine ⟨_, (pss_cons (ps_if (PW.pt (pw_or (pt_not (pt_val (pe_call GRw (hr.mono (by decide)) (by rfl) DRw.g DRw.F.kp DRw.b .nil pass0 (pa_cons (pv 0) pa_nil)))) (pw_or (pt_cmpR op_ne (pe_callB call_len_seq (by rfl) T.len PySem.boot_len (pa_cons (pv 0) pa_nil)) pe_int (nomark _)) (pw_or1 (pt_not (pt_val (pe_call GWh (hr.mono (by decide)) (by rfl) DWh.g DWh.F.kp DWh.b .nil pass0 (pa_cons (pe_ix ix_tup (pv 0) pe_int (fun _ _ => rfl)) (pa_cons pe_int (pa_cons (pe_glob (v := .int 1000) (by rfl) mr ⟨_, rfl⟩) pa_nil))))))))))
          (pss_one (ps_ret pe_bl))
          pss_nil)
        (pss_one (ps_ret (pe_and (pe_call GWh (hr.mono (by decide)) (by rfl) DWh.g DWh.F.kp DWh.b .nil pass0 (pa_cons (pe_ix ix_tup (pv 0) pe_int (fun _ _ => rfl)) (pa_cons pe_int (pa_cons (pe_ix ix_tup (pv 0) pe_int (fun _ _ => rfl)) pa_nil)))) (pe_one (pe_call GWh (hr.mono (by decide)) (by rfl) DWh.g DWh.F.kp DWh.b .nil pass0 (pa_cons (pe_ix ix_tup (pv 0) pe_int (fun _ _ => rfl)) (pa_cons pe_int (pa_cons (pe_glob (v := .int 100000) (by rfl) mk ⟨_, rfl⟩) pa_nil))))))))), ?_⟩
    obtain ⟨o1, o2, o3, o4⟩ := ok
    refine ⟨.ref a, rfl, a, _, rfl, .inr hx, fun H1 s1 => ⟨true, rfl, iteF ?_⟩⟩
    have hx1 : SqT K H1 a _ := SqT.of (s1 _ _ hx)
    refine ⟨.ref a, rfl, a, _, rfl, .inr hx1, rfl, _, rfl, iteNS rfl ?_⟩
    refine ⟨.ref a, rfl, a, _, 0, vI x.r, rfl, rfl, hx1, atI_nat (j := 0) rfl, x.r, 0, 1000, rfl, by omega, by omega, true, rfl, iteF ?_⟩
    refine ⟨.ref a, rfl, a, _, 1, vI x.f, rfl, rfl, hx1, atI_nat (j := 1) rfl, .ref a, rfl, a, _, 0, vI x.r, rfl, rfl, hx1, atI_nat (j := 0) rfl, x.f, 0, x.r, rfl, by omega, by omega, true, rfl, iteT ?_⟩
    exact ⟨.ref a, rfl, a, _, 2, vI x.c, rfl, rfl, hx1, atI_nat (j := 2) rfl, x.c, 1, 100000, rfl, by omega, by omega, q _ s1⟩
def spAk : Sp := fun vs H Q _ => ∃ (a : Addr) (cs : List Ch), vs = [.ref a] ∧ ChsAt H a cs ∧ cs.length ≤ 40 ∧ (∀ x ∈ cs, x.ok) ∧ ∀ H', Same H H' → Q .non H'
theorem ok_Ak {f f1 : Addr} {fd fd1 : FuncData} (D : De K mg "ask_chances" sAk ["chances"] f fd) (T : Tx mg)
    (DIc : De K mg "is_chance" sIc ["thing"] f1 fd1) (GIc : FnOk P w K mg base CX0 2 f1 fd1 ["thing"] spIc) : FnOk P w K mg base CX0 3 f fd ["chances"] spAk := by
  obtain ⟨tr, mc⟩ := T.chances
  refine D.F.ok scAk (fun vs H Q E h => ?_) (fun cdv A outer s H vs Q E hr h => ?_)
  · obtain ⟨a, cs, rfl, _⟩ := h
    rfl
  · obtain ⟨a, cs, rfl, hc, hl, ok, q⟩ := h
    refine ⟨_, (pss_cons (ps_if (pt_cmpR op_gt (pe_callB call_len_seq (by rfl) T.len PySem.boot_len (pa_cons (pv 0) pa_nil)) (pe_glob (v := .int 40) (by rfl) mc ⟨_, rfl⟩) (nomark _))
          pss_never
          pss_nil)
        (pss_one (ps_for PassesOwn.never rfl (pi_range1 (by rfl) T.range (pa_cons (pe_callB call_len_seq (by rfl) T.len PySem.boot_len (pa_cons (pv 0) pa_nil)) pa_nil)) (pg_name (i := 1) scAk.nd rfl (Or.inl rfl))
        (pss_one (ps_if (pt_not (pt_val (pe_call GIc (hr.mono (by decide)) (by rfl) DIc.g DIc.F.kp DIc.b .nil pass0 (pa_cons (pe_ix ix_list (pv 0) (pv 1) (fun _ _ => rfl)) pa_nil))))
          pss_never
          pss_nil))))), ?_⟩
    obtain ⟨vs, hv, hvl⟩ := hc.list
    refine ⟨.ref a, rfl, a, vs, rfl, .inl (SqL.of hv), _, _, rfl, rfl, _, rfl, iteN (by omega) ?_⟩
    refine ⟨.ref a, rfl, a, vs, rfl, .inl (SqL.of hv), _, rfl, by omega, by omega, ?_⟩
    rw [hvl]
    refine for_up (n := cs.length) (fun i σ H' => ∃ y, σ = [some (.ref a), y] ∧ Same H H') ⟨none, rfl, Same.refl _⟩ (fun i σ H' hi p => ?_) (fun σ H' p => ?_)
    · obtain ⟨y, rfl, sm⟩ := p
      obtain ⟨us, p, hu, hul, hup, hch⟩ := (hc.same sm).get (List.getElem?_eq_getElem hi)
      refine ⟨.ref a, rfl, vI i, rfl, a, us, i, .ref p, rfl, rfl, SqL.of hu, atI_nat hup, p, cs[i], rfl, hch, ok _ (List.getElem_mem hi), fun H2 s2 => ⟨true, rfl, iteF ?_⟩⟩
      exact ⟨_, rfl, sm.trans s2⟩
    · obtain ⟨y, rfl, sm⟩ := p
      exact q _ sm
/-! ### is_above -/
theorem above_iff (x y : Ch) : decide (((y.f : Int) + 1) * ((x.r : Int) + 2) * (x.c : Int) < ((x.f : Int) + 1) * ((y.r : Int) + 2) * (y.c : Int)) = decide (¬ LE y x) := by
  have e1 : ((y.f : Int) + 1) * ((x.r : Int) + 2) * (x.c : Int) = ((x.c * x.n * (y.f + 1) : Nat) : Int) := by
    unfold Ch.n
    simp only [Int.natCast_mul, Int.natCast_add, Int.mul_comm, Int.mul_left_comm]
    rfl
  have e2 : ((x.f : Int) + 1) * ((y.r : Int) + 2) * (y.c : Int) = ((y.c * y.n * (x.f + 1) : Nat) : Int) := by
    unfold Ch.n
    simp only [Int.natCast_mul, Int.natCast_add, Int.mul_comm, Int.mul_left_comm]
    rfl
  rw [e1, e2]
  unfold LE
  exact decide_eq_decide.mpr (by omega)
theorem mul_in {a b : Int} {m n : Nat} (ha : 0 ≤ a ∧ a ≤ m) (hb : 0 ≤ b ∧ b ≤ n) : 0 ≤ a * b ∧ a * b ≤ ((m * n : Nat) : Int) := by
  refine ⟨Int.mul_nonneg ha.1 hb.1, ?_⟩
  rw [Int.natCast_mul]
  exact Int.mul_le_mul ha.2 hb.2 hb.1 (by omega)
def spAb : Sp := fun vs H Q _ => ∃ (p q : Addr) (x y : Ch), vs = [.ref p, .ref q] ∧ ChAt H p x ∧ ChAt H q y ∧ x.ok ∧ y.ok ∧ Q (.bl (decide (¬ LE y x))) H
theorem ok_Ab {f : Addr} {fd : FuncData} (D : De K mg "is_above" sAb ["one", "other"] f fd) : FnOk P w K mg base CX0 1 f fd ["one", "other"] spAb := by
  refine D.F.ok scAb (fun vs H Q E h => ?_) (fun cdv A outer s H vs Q E hr h => ?_)
  · obtain ⟨p, q, x, y, rfl, _⟩ := h
    rfl
  · obtain ⟨p, q, x, y, rfl, hx, hy, ox, oy, k⟩ := h
    refine ⟨_, (pss_one (ps_ret (pe_cmpR op_gt (pe_op op_mul (pe_op op_mul (pe_op op_add (pe_ix ix_tup (pv 0) pe_int (fun _ _ => rfl)) pe_int) (pe_op op_add (pe_ix ix_tup (pv 1) pe_int (fun _ _ => rfl)) pe_int)) (pe_ix ix_tup (pv 1) pe_int (fun _ _ => rfl))) (pe_op op_mul (pe_op op_mul (pe_op op_add (pe_ix ix_tup (pv 1) pe_int (fun _ _ => rfl)) pe_int) (pe_op op_add (pe_ix ix_tup (pv 0) pe_int (fun _ _ => rfl)) pe_int)) (pe_ix ix_tup (pv 0) pe_int (fun _ _ => rfl))) (nomark _)))), ?_⟩
    have tx : SqT K H p _ := SqT.of hx
    have ty : SqT K H q _ := SqT.of hy
    obtain ⟨o1, o2, o3, o4⟩ := ox
    obtain ⟨u1, u2, u3, u4⟩ := oy
    have b1 : 0 ≤ ((x.f : Int) + 1) * ((y.r : Int) + 2) ∧ ((x.f : Int) + 1) * ((y.r : Int) + 2) ≤ ((1001 * 1002 : Nat) : Int) := mul_in (by omega) (by omega)
    have b2 : 0 ≤ ((y.f : Int) + 1) * ((x.r : Int) + 2) ∧ ((y.f : Int) + 1) * ((x.r : Int) + 2) ≤ ((1001 * 1002 : Nat) : Int) := mul_in (by omega) (by omega)
    refine ⟨.ref p, rfl, p, _, 1, vI x.f, rfl, rfl, tx, atI_nat (j := 1) rfl, _, _, rfl, rfl, ?_⟩
    refine ⟨.ref q, rfl, q, _, 0, vI y.r, rfl, rfl, ty, atI_nat (j := 0) rfl, _, _, rfl, rfl, ?_⟩
    refine ⟨_, _, rfl, rfl, .inl ⟨by omega, by omega⟩, ?_⟩
    refine ⟨.ref q, rfl, q, _, 2, vI y.c, rfl, rfl, ty, atI_nat (j := 2) rfl, _, _, rfl, rfl, .inr ⟨by omega, by omega⟩, ?_⟩
    refine ⟨.ref q, rfl, q, _, 1, vI y.f, rfl, rfl, ty, atI_nat (j := 1) rfl, _, _, rfl, rfl, ?_⟩
    refine ⟨.ref p, rfl, p, _, 0, vI x.r, rfl, rfl, tx, atI_nat (j := 0) rfl, _, _, rfl, rfl, ?_⟩
    refine ⟨_, _, rfl, rfl, .inl ⟨by omega, by omega⟩, ?_⟩
    refine ⟨.ref p, rfl, p, _, 2, vI x.c, rfl, rfl, tx, atI_nat (j := 2) rfl, _, _, rfl, rfl, .inr ⟨by omega, by omega⟩, ?_⟩
    refine ⟨_, _, rfl, rfl, ?_⟩
    show Q (.bl (decide (((y.f : Int) + 1) * ((x.r : Int) + 2) * (x.c : Int) < ((x.f : Int) + 1) * ((y.r : Int) + 2) * (y.c : Int)))) H
    rw [above_iff]
    exact k
end
end K51
namespace K51
open PySem PySem.Spec PyProof.Rows L2
/-! ### rules for a list or a tuple: slices, walks -/
theorem take_cut (xs : List V) (k : Nat) (h : k < xs.length) : cutV xs none (some (k : Int)) = xs.take k := by
  unfold cutV
  rw [HT.sIx_none, HT.sIx_nat, List.drop_zero, Nat.sub_zero, Nat.min_eq_left (Nat.le_of_lt h)]
section
variable {X : Cx}
def rSlA : V → Option Int → Option Int → Hp → VK → Prop := fun x lo hi H Q => ∃ (a : Addr) (xs : List V) (k : Nat), x = .ref a ∧ Sq H a xs ∧ lo = none ∧ hi = some (k : Int) ∧ k < xs.length ∧ ∀ H' q, Same H H' → Sq H' q (xs.take k) → Q (.ref q) H'
theorem sl_any : SlR X rSlA := by
  intro pins s σ H x v vl vu lo hi sl Q I rx hs pl pu h
  obtain ⟨a, xs, k, e1, hq, e2, e3, hk, q⟩ := h
  subst e2 e3
  rcases hq with hq | hq
  · refine sl_list pins s σ H x v vl vu none (some (k : Int)) sl Q I rx hs pl pu ⟨a, xs, e1, SqL.of hq, fun p hp => q _ p (same_upd hp) (.inl ?_)⟩
    rw [upd_same, take_cut xs k hk]
  · refine sl_tup pins s σ H x v vl vu none (some (k : Int)) sl Q I rx hs pl pu ⟨a, xs, e1, SqT.of hq, fun z => ?_, fun p hp => q _ p (same_upd hp) (.inr ?_)⟩
    · have z2 := z.2
      rw [HT.sIx_nat, Nat.min_eq_left (Nat.le_of_lt hk)] at z2
      omega
    · rw [upd_same, take_cut xs k hk]
theorem pi_any {tg l : Expr} {tl : TE} (hl : PE X l tl) : PI X tg l (fun σ H R => iList X.K tl σ H R ∨ iTup X.K tl σ H R) :=
  ⟨fun pins s σ H R I h => h.elim (fun z => (pi_list hl).run pins s σ H R I z) (fun z => (pi_tup hl).run pins s σ H R I z)⟩
end
theorem flat_ints (o : List Nat) : (o.map vI).all flatV = true := by
  induction o with
  | nil => rfl
  | cons x xs ih =>
    rw [List.map_cons, List.all_cons, ih]
    rfl
theorem inV_ints (a : Nat) (o : List Nat) (h : a ∉ o) : inV (vI a) (o.map vI) = false := by
  unfold inV
  induction o with
  | nil => rfl
  | cons x xs ih =>
    rw [List.map_cons, List.any_cons, ih (fun z => h (List.mem_cons_of_mem _ z))]
    have e : eqV (vI x) (vI a) = false := by
      show (((x : Int)) == (a : Int)) = false
      rw [beq_eq_false_iff_ne]
      intro z
      have z2 : x = a := by omega
      exact h (by rw [z2]; exact List.mem_cons_self ..)
    rw [e]
    rfl
theorem ints_at {o : List Nat} {i : Nat} (h : i < o.length) : (o.map vI)[i]? = some (vI o[i]) := by
  rw [List.getElem?_map, List.getElem?_eq_getElem h]
  rfl
section
variable {P : Program} {w : World} {K : PySem.W.Frag} {mg : Str → Option Value} {base : Heap}
/-! ### common, _law_divisor, lowest -/
def spCm : Sp := fun vs H Q _ => ∃ a b : Nat, vs = [vI a, vI b] ∧ Q (vI (Nat.gcd a b)) H
theorem gcd_turn (x y : Nat) : Nat.gcd y (x % y) = Nat.gcd x y := by
  rw [Nat.gcd_comm y, ← Nat.gcd_rec, Nat.gcd_comm]
theorem ok_Cm {f : Addr} {fd : FuncData} (D : De K mg "common" sCm ["one", "other"] f fd) : FnOk P w K mg base CX0 1 f fd ["one", "other"] spCm := by
  refine D.F.ok scCm (fun vs H Q E h => ?_) (fun cdv A outer s H vs Q E hr h => ?_)
  · obtain ⟨a, b, rfl, _⟩ := h
    rfl
  · obtain ⟨a, b, rfl, q⟩ := h
    refine ⟨_, (pss_cons (ps_while PassesOwn.never (pt_cmpR op_gt (pv 1) pe_int (nomark _))
          (pss_one (ps_par (i := 0) (j := 1) (by rfl) scCm.nd rfl rfl (by decide) rfl rfl (pa_cons (pv 1) (pa_cons (pe_op op_mod (pv 0) (pv 1)) pa_nil)) (by rfl))))
        (pss_one (ps_ret (pv 0)))), ?_⟩
    refine ⟨fun m σ H' => ∃ x : Nat, σ = [some (vI x), some (vI m)] ∧ Nat.gcd x m = Nat.gcd a b ∧ H' = H, ⟨b, a, rfl, rfl, rfl⟩, fun m σ H' hw => ?_⟩
    obtain ⟨x, rfl, hg, rfl⟩ := hw
    refine ⟨vI m, rfl, _, _, rfl, rfl, _, rfl, ?_⟩
    by_cases hm : (0 : Int) < (m : Int)
    · refine iteP hm ⟨fun σ' H2 => ∃ x m' : Nat, m' < m ∧ σ' = [some (vI x), some (vI m')] ∧ Nat.gcd x m' = Nat.gcd a b ∧ H2 = H', fun σ' H2 hn => ?_, ?_⟩
      · obtain ⟨y, m', h1, h2, h3, h4⟩ := hn
        exact ⟨m', h1, y, h2, h3, h4⟩
      · refine ⟨vI m, rfl, vI x, rfl, vI m, rfl, _, _, rfl, rfl, hm, ?_⟩
        refine ⟨_, _, rfl, m, x % m, Nat.mod_lt _ (by omega), ?_, ?_, rfl⟩
        · rfl
        · rw [gcd_turn, hg]
    · refine iteN hm ⟨vI x, rfl, ?_⟩
      have e : m = 0 := by omega
      subst e
      rw [Nat.gcd_zero_right] at hg
      rw [hg]
      exact q
theorem ok_Dv {f : Addr} {fd : FuncData} (D : De K mg "_law_divisor" sDv ["_law_one", "_law_other"] f fd) : FnOk P w K mg base CX0 1 f fd ["_law_one", "_law_other"] spCm := by
  refine D.F.ok scDv (fun vs H Q E h => ?_) (fun cdv A outer s H vs Q E hr h => ?_)
  · obtain ⟨a, b, rfl, _⟩ := h
    rfl
  · obtain ⟨a, b, rfl, q⟩ := h
    refine ⟨_, (pss_cons (ps_while PassesOwn.never (pt_cmpR op_gt (pv 1) pe_int (nomark _))
          (pss_one (ps_par (i := 0) (j := 1) (by rfl) scDv.nd rfl rfl (by decide) rfl rfl (pa_cons (pv 1) (pa_cons (pe_op op_mod (pv 0) (pv 1)) pa_nil)) (by rfl))))
        (pss_one (ps_ret (pv 0)))), ?_⟩
    refine ⟨fun m σ H' => ∃ x : Nat, σ = [some (vI x), some (vI m)] ∧ Nat.gcd x m = Nat.gcd a b ∧ H' = H, ⟨b, a, rfl, rfl, rfl⟩, fun m σ H' hw => ?_⟩
    obtain ⟨x, rfl, hg, rfl⟩ := hw
    refine ⟨vI m, rfl, _, _, rfl, rfl, _, rfl, ?_⟩
    by_cases hm : (0 : Int) < (m : Int)
    · refine iteP hm ⟨fun σ' H2 => ∃ x m' : Nat, m' < m ∧ σ' = [some (vI x), some (vI m')] ∧ Nat.gcd x m' = Nat.gcd a b ∧ H2 = H', fun σ' H2 hn => ?_, ?_⟩
      · obtain ⟨y, m', h1, h2, h3, h4⟩ := hn
        exact ⟨m', h1, y, h2, h3, h4⟩
      · refine ⟨vI m, rfl, vI x, rfl, vI m, rfl, _, _, rfl, rfl, hm, ?_⟩
        refine ⟨_, _, rfl, m, x % m, Nat.mod_lt _ (by omega), ?_, ?_, rfl⟩
        · rfl
        · rw [gcd_turn, hg]
    · refine iteN hm ⟨vI x, rfl, ?_⟩
      have e : m = 0 := by omega
      subst e
      rw [Nat.gcd_zero_right] at hg
      rw [hg]
      exact q
/-- a pair of numbers as a tuple's items -/
def vP (p : Nat × Nat) : List V := [vI p.1, vI p.2]
def spLw : Sp := fun vs H Q _ => ∃ a b : Nat, vs = [vI a, vI b] ∧ 0 < b ∧ b < 2 ^ 100 ∧ ∀ H' p, Same H H' → H p = none → H' p = some (.tup (vP (low a b))) → Q (.ref p) H'
theorem div_ok {a b : Nat} (hb : 0 < b) (h : b < 2 ^ 100) : CDivW (a : Int) (b : Int) := wide_div (b := 100) (by omega) (by rw [Int.natAbs_natCast]; exact h) (by decide) (by decide)
theorem ok_Lw {f f1 : Addr} {fd fd1 : FuncData} (D : De K mg "lowest" sLw ["above", "below"] f fd) (DCm : De K mg "common" sCm ["one", "other"] f1 fd1) (GCm : FnOk P w K mg base CX0 1 f1 fd1 ["one", "other"] spCm) : FnOk P w K mg base CX0 2 f fd ["above", "below"] spLw := by
  refine D.F.ok scLw (fun vs H Q E h => ?_) (fun cdv A outer s H vs Q E hr h => ?_)
  · obtain ⟨a, b, rfl, _⟩ := h
    rfl
  · obtain ⟨a, b, rfl, hb, hb2, q⟩ := h
    refine ⟨_, (pss_cons (ps_set (i := 2) scLw.nd rfl (Or.inl rfl) (pe_call GCm (hr.mono (by decide)) (by rfl) DCm.g DCm.F.kp DCm.b .nil pass0 (pa_cons (pv 0) (pa_cons (pv 1) pa_nil))))
        (pss_one (ps_ret (pe_tup (pa_cons (pe_op op_fdivW (pv 0) (pv 2)) (pa_cons (pe_op op_fdivW (pv 1) (pv 2)) pa_nil)))))), ?_⟩
    have g1 : 0 < Nat.gcd a b := Nat.gcd_pos_of_pos_right a hb
    have g2 : Nat.gcd a b < 2 ^ 100 := Nat.lt_of_le_of_lt (Nat.gcd_le_right a hb) hb2
    refine ⟨vI a, rfl, vI b, rfl, a, b, rfl, ?_⟩
    refine ⟨vI a, rfl, vI (Nat.gcd a b), rfl, _, _, rfl, rfl, div_ok g1 g2, vI b, rfl, vI (Nat.gcd a b), rfl, _, _, rfl, rfl, div_ok g1 g2, (by show 2 ≤ sizeLine; decide), fun p hp => ?_⟩
    refine q _ p (same_upd hp) hp ?_
    rw [upd_same]
    rfl
/-! ### is_order -/
def spIo : Sp := fun vs H Q _ => ∃ (a : Addr) (o : List Nat) (n : Nat), vs = [.ref a, vI n] ∧ Sq H a (o.map vI) ∧ o.Perm (List.range n) ∧ n ≤ 40 ∧ ∀ H', Same H H' → Q (.bl true) H'
theorem ok_Io {f f1 f2 : Addr} {fd fd1 fd2 : FuncData} (D : De K mg "is_order" sIo ["thing", "many"] f fd) (T : Tx mg)
    (DRw : De K mg "is_row" sRw ["thing"] f1 fd1) (GRw : FnOk P w K mg base CX0 1 f1 fd1 ["thing"] spRw)
    (DWh : De K mg "is_whole" sWh ["thing", "least", "most"] f2 fd2) (GWh : FnOk P w K mg base CX0 1 f2 fd2 ["thing", "least", "most"] spWh) : FnOk P w K mg base CX0 2 f fd ["thing", "many"] spIo := by
  refine D.F.ok scIo (fun vs H Q E h => ?_) (fun cdv A outer s H vs Q E hr h => ?_)
  · obtain ⟨a, o, n, rfl, _⟩ := h
    rfl
  · obtain ⟨a, o, n, rfl, hs, hp, hn, q⟩ := h
    refine ⟨_, (pss_cons (ps_if (PW.pt (pw_or (pt_not (pt_val (pe_call GRw (hr.mono (by decide)) (by rfl) DRw.g DRw.F.kp DRw.b .nil pass0 (pa_cons (pv 0) pa_nil)))) (pw_or1 (pt_cmpR op_ne (pe_callB call_len_seq (by rfl) T.len PySem.boot_len (pa_cons (pv 0) pa_nil)) (pv 1) (nomark _)))))
          (pss_one (ps_ret pe_bl))
          pss_nil)
        (pss_cons (ps_for PassesOwn.never rfl (pi_range1 (by rfl) T.range (pa_cons (pv 1) pa_nil)) (pg_name (i := 2) scIo.nd rfl (Or.inl rfl))
          (pss_one (ps_if (PW.pt (pw_or (pt_not (pt_val (pe_call GWh (hr.mono (by decide)) (by rfl) DWh.g DWh.F.kp DWh.b .nil pass0 (pa_cons (pe_ix ix_any (pv 0) (pv 2) (fun _ _ => rfl)) (pa_cons pe_int (pa_cons (pe_op op_sub (pv 1) pe_int) pa_nil)))))) (pw_or1 (pt_cmpR op_in_seq (pe_ix ix_any (pv 0) (pv 2) (fun _ _ => rfl)) (pe_slice sl_any (pv 0) po_none (po_some (pv 2))) (by rfl)))))
            (pss_one (ps_ret pe_bl))
            pss_nil)))
        (pss_one (ps_ret pe_bl)))), ?_⟩
    have hl : o.length = n := len_of_perm hp
    refine ⟨.ref a, rfl, a, _, rfl, hs, fun H1 s1 => ⟨true, rfl, iteF ?_⟩⟩
    have hs1 := hs.same s1
    refine ⟨.ref a, rfl, a, o.map vI, rfl, hs1.elim (fun z => .inl (SqL.of z)) (fun z => .inr (SqT.of z)), vI n, rfl, rfl, _, rfl, iteNS (by rw [List.length_map, hl]) ?_⟩
    refine ⟨vI n, rfl, _, rfl, by omega, by omega, ?_⟩
    refine for_up (n := n) (fun i σ H' => ∃ y, σ = [some (.ref a), some (vI n), y] ∧ Same H H') ⟨none, rfl, s1⟩ (fun i σ H' hi p => ?_) (fun σ H' p => ?_)
    · obtain ⟨y, rfl, sm⟩ := p
      have hq := hs.same sm
      have ho : i < o.length := by omega
      have ha : (o.map vI)[i]? = some (vI o[i]) := ints_at ho
      have hlt : o[i] < n := lt_of_perm hp (List.getElem_mem ho)
      refine ⟨.ref a, rfl, vI i, rfl, a, _, _, vI o[i], rfl, rfl, hq, atI_nat ha, vI n, rfl, _, _, rfl, rfl, ?_⟩
      refine ⟨o[i], 0, (n : Int) - 1, rfl, by omega, by omega, true, rfl, iteF ?_⟩
      refine ⟨.ref a, rfl, vI i, rfl, a, _, _, vI o[i], rfl, rfl, hq, atI_nat ha, .ref a, rfl, vI i, rfl, _, rfl, a, o.map vI, i, rfl, hq, rfl, rfl, by rw [List.length_map]; exact ho, fun H2 t s2 ht => ?_⟩
      have e : inV (vI o[i]) (o.take i |>.map vI) = false := inV_ints _ _ fun z => by
        have nd := nodup_of_perm hp
        obtain ⟨j, hj, ej⟩ := List.mem_iff_getElem.mp z
        rw [List.length_take] at hj
        rw [List.getElem_take] at ej
        have := (List.getElem_inj nd).mp ej
        omega
      rw [← List.map_take] at ht
      refine ⟨t, _, rfl, ht.elim (fun z => .inl (SqL.of z)) (fun z => .inr (SqT.of z)), rfl, flat_ints _, false, ?_, iteF ⟨_, rfl, sm.trans s2⟩⟩
      show V.bl (if false = true then !inV (vI o[i]) ((o.take i).map vI) else inV (vI o[i]) ((o.take i).map vI)) = V.bl false
      rw [if_neg Bool.false_ne_true, e]
    · obtain ⟨y, rfl, sm⟩ := p
      exact q _ sm
end
end K51
namespace K51
open PySem PySem.Spec PyProof.Rows L2
section
variable {P : Program} {w : World} {K : PySem.W.Frag} {mg : Str → Option Value} {base : Heap}
/-! ### is_best_order -/
def spIb : Sp := fun vs H Q _ => ∃ (a b : Addr) (cs : List Ch) (o : List Nat), vs = [.ref a, .ref b] ∧ ChsAt H a cs ∧ H b = some (.lst (o.map vI)) ∧ o.Perm (List.range cs.length) ∧ cs.length ≤ 40 ∧ (∀ x ∈ cs, x.ok) ∧
  ∀ (t : Bool) H', (t = true ↔ Falls (pick cs o)) → Same H H' → Q (.bl t) H'
theorem ok_Ib {f f1 f2 f3 : Addr} {fd fd1 fd2 fd3 : FuncData} (D : De K mg "is_best_order" sIb ["chances", "order"] f fd) (T : Tx mg)
    (DAk : De K mg "ask_chances" sAk ["chances"] f1 fd1) (GAk : FnOk P w K mg base CX0 3 f1 fd1 ["chances"] spAk)
    (DIo : De K mg "is_order" sIo ["thing", "many"] f2 fd2) (GIo : FnOk P w K mg base CX0 2 f2 fd2 ["thing", "many"] spIo)
    (DAb : De K mg "is_above" sAb ["one", "other"] f3 fd3) (GAb : FnOk P w K mg base CX0 1 f3 fd3 ["one", "other"] spAb) : FnOk P w K mg base CX0 4 f fd ["chances", "order"] spIb := by
  refine D.F.ok scIb (fun vs H Q E h => ?_) (fun cdv A outer s H vs Q E hr h => ?_)
  · obtain ⟨a, b, cs, o, rfl, _⟩ := h
    rfl
  · obtain ⟨a, b, cs, o, rfl, hc, hb, hp, hn, ok, q⟩ := h
    refine ⟨_, (pss_cons (ps_expr (pe_call GAk (hr.mono (by decide)) (by rfl) DAk.g DAk.F.kp DAk.b .nil pass0 (pa_cons (pv 0) pa_nil)))
        (pss_cons (ps_if (pt_not (pt_val (pe_call GIo (hr.mono (by decide)) (by rfl) DIo.g DIo.F.kp DIo.b .nil pass0 (pa_cons (pv 1) (pa_cons (pe_callB call_len_seq (by rfl) T.len PySem.boot_len (pa_cons (pv 0) pa_nil)) pa_nil)))))
          (pss_one (ps_ret pe_bl))
          pss_nil)
        (pss_cons (ps_for PassesOwn.never rfl (pi_range2 (by rfl) T.range (pa_cons pe_int (pa_cons (pe_callB call_len_seq (by rfl) T.len PySem.boot_len (pa_cons (pv 1) pa_nil)) pa_nil))) (pg_name (i := 2) scIb.nd rfl (Or.inl rfl))
          (pss_one (ps_if (pt_val (pe_call GAb (hr.mono (by decide)) (by rfl) DAb.g DAb.F.kp DAb.b .nil pass0 (pa_cons (pe_ix ix_list (pv 0) (pe_ix ix_list (pv 1) (pv 2) (fun _ _ => rfl)) (fun _ _ => rfl)) (pa_cons (pe_ix ix_list (pv 0) (pe_ix ix_list (pv 1) (pe_op op_sub (pv 2) pe_int) (fun _ _ => rfl)) (fun _ _ => rfl)) pa_nil))))
            (pss_one (ps_ret pe_bl))
            pss_nil)))
        (pss_one (ps_ret pe_bl))))), ?_⟩
    have hl : o.length = cs.length := len_of_perm hp
    refine ⟨.ref a, rfl, a, cs, rfl, hc, hn, ok, fun H1 s1 => ?_⟩
    obtain ⟨vs, hv, hvl⟩ := (hc.same s1).list
    refine ⟨.ref b, rfl, .ref a, rfl, a, vs, rfl, .inl (SqL.of hv), ?_⟩
    rw [hvl]
    refine ⟨b, o, cs.length, rfl, .inl (s1 _ _ hb), hp, hn, fun H2 s2 => ⟨true, rfl, iteF ?_⟩⟩
    have s12 := s1.trans s2
    refine ⟨.ref b, rfl, b, o.map vI, rfl, .inl (SqL.of (s12 _ _ hb)), 1, (o.length : Int), ?_, ⟨by omega, by omega, by omega, by omega⟩, ?_⟩
    · rw [List.length_map]
    refine for_range (lo := 1) (n := ((o.length : Int) - 1).toNat) (fun i σ H' => ∃ y, σ = [some (.ref a), some (.ref b), y] ∧ Same H H' ∧ ∀ j u v, j < i → o[j]? = some u → o[j + 1]? = some v → LE (ch cs u) (ch cs v)) ⟨none, rfl, s12, fun j u v h => absurd h (Nat.not_lt_zero j)⟩ (fun i σ H' hi p => ?_) (fun σ H' p => ?_)
    · obtain ⟨y, rfl, sm, hf⟩ := p
      have h1 : i + 1 < o.length := by omega
      have h0 : i < o.length := by omega
      have c1 : o[i + 1] < cs.length := lt_of_perm hp (List.getElem_mem h1)
      have c0 : o[i] < cs.length := lt_of_perm hp (List.getElem_mem h0)
      have hb2 : SqL K H' b (o.map vI) := SqL.of (sm _ _ hb)
      obtain ⟨us, p1, hu, hul, hu1, hx1⟩ := (hc.same sm).get (ch_get c1)
      obtain ⟨us2, p0, hu2, hul2, hu0, hx0⟩ := (hc.same sm).get (ch_get c0)
      have e1 : (1 : Int) + (i : Int) = ((i + 1 : Nat) : Int) := by omega
      have e0 : (1 : Int) + (i : Int) - 1 = (i : Int) := by omega
      refine ⟨.ref a, rfl, .ref b, rfl, .int (1 + (i : Int)), rfl, b, o.map vI, 1 + (i : Int), vI o[i + 1], rfl, rfl, hb2, at_of e1 (ints_at h1), a, us, _, .ref p1, rfl, rfl, SqL.of hu, atI_nat hu1, ?_⟩
      refine ⟨.ref a, rfl, .ref b, rfl, .int (1 + (i : Int)), rfl, 1 + (i : Int), 1, rfl, rfl, b, o.map vI, 1 + (i : Int) - 1, vI o[i], rfl, rfl, hb2, at_of e0 (ints_at h0), a, us2, _, .ref p0, rfl, rfl, SqL.of hu2, atI_nat hu0, ?_⟩
      refine ⟨p1, p0, _, _, rfl, hx1, hx0, ok _ (ch_mem c1), ok _ (ch_mem c0), _, rfl, ite2 (fun g => ?_) (fun g => ?_)⟩
      · have g2 : ¬ LE (ch cs o[i]) (ch cs o[i + 1]) := of_decide_eq_true g
        refine q false H' ⟨(fun z => nomatch z), fun z => ?_⟩ sm
        exact absurd (falls_pick.mp z i _ _ (List.getElem?_eq_getElem h0) (List.getElem?_eq_getElem h1)) g2
      · have g2 : LE (ch cs o[i]) (ch cs o[i + 1]) := by
          by_cases c : LE (ch cs o[i]) (ch cs o[i + 1])
          · exact c
          · exact absurd (decide_eq_true c) g
        refine ⟨_, rfl, sm, fun j u v hj hu hv => ?_⟩
        by_cases hji : j < i
        · exact hf j u v hji hu hv
        · have ej : j = i := by omega
          subst ej
          rw [List.getElem?_eq_getElem h0] at hu
          rw [List.getElem?_eq_getElem h1] at hv
          cases hu
          cases hv
          exact g2
    · obtain ⟨y, rfl, sm, hf⟩ := p
      refine q true H' ⟨fun _ => ?_, fun _ => rfl⟩ sm
      refine falls_pick.mpr fun j u v hu hv => hf j u v ?_ hu hv
      have := (List.getElem?_eq_some_iff.mp hv).1
      omega
/-! ### best_order -/
def spBo : Sp := fun vs H Q _ => ∃ (a : Addr) (cs : List Ch), vs = [.ref a] ∧ ChsAt H a cs ∧ cs.length ≤ 40 ∧ (∀ x ∈ cs, x.ok) ∧
  ∀ H' p (o : List Nat), Same H H' → H p = none → H' p = some (.tup (o.map vI)) → o.Perm (List.range cs.length) → Falls (pick cs o) → Q (.ref p) H'
theorem rg_ints (n : Nat) : rgV 0 (n : Int) = (List.range n).map vI := by
  unfold rgV
  rw [Int.sub_zero, Int.toNat_natCast]
  refine List.map_congr_left fun i _ => ?_
  rw [Int.zero_add]
theorem mapI (o : List Nat) : (o.map fun n : Nat => (n : Int)).map V.int = o.map vI := by
  rw [List.map_map]
  rfl
theorem ok_Bo {f f1 f3 : Addr} {fd fd1 fd3 : FuncData} (D : De K mg "best_order" sBo ["chances"] f fd) (T : Tx mg)
    (DAk : De K mg "ask_chances" sAk ["chances"] f1 fd1) (GAk : FnOk P w K mg base CX0 3 f1 fd1 ["chances"] spAk)
    (DAb : De K mg "is_above" sAb ["one", "other"] f3 fd3) (GAb : FnOk P w K mg base CX0 1 f3 fd3 ["one", "other"] spAb) : FnOk P w K mg base CX0 4 f fd ["chances"] spBo := by
  refine D.F.ok scBo (fun vs H Q E h => ?_) (fun cdv A outer s H vs Q E hr h => ?_)
  · obtain ⟨a, cs, rfl, _⟩ := h
    rfl
  · obtain ⟨a, cs, rfl, hc, hn, ok, q⟩ := h
    refine ⟨_, (pss_cons (ps_expr (pe_call GAk (hr.mono (by decide)) (by rfl) DAk.g DAk.F.kp DAk.b .nil pass0 (pa_cons (pv 0) pa_nil)))
        (pss_cons (ps_set (i := 1) scBo.nd rfl (Or.inl rfl) (pe_listRg rfl (by rfl) T.list (prg_1 (by rfl) T.range (pe_callB call_len_seq (by rfl) T.len PySem.boot_len (pa_cons (pv 0) pa_nil)))))
        (pss_cons (ps_set (i := 2) scBo.nd rfl (Or.inl rfl) (pe_lst pa_nil))
        (pss_cons (ps_while PassesOwn.never (pt_cmpR op_gt (pe_callB call_len_seq (by rfl) T.len PySem.boot_len (pa_cons (pv 1) pa_nil)) pe_int (nomark _))
          (pss_cons (ps_set (i := 3) scBo.nd rfl (Or.inl rfl) (pe_ix ix_list (pv 1) pe_int (fun _ _ => rfl)))
            (pss_cons (ps_for PassesOwn.never rfl (pi_list (pv 1)) (pg_name (i := 4) scBo.nd rfl (Or.inl rfl))
              (pss_one (ps_if (pt_val (pe_call GAb (hr.mono (by decide)) (by rfl) DAb.g DAb.F.kp DAb.b .nil pass0 (pa_cons (pe_ix ix_list (pv 0) (pv 4) (fun _ _ => rfl)) (pa_cons (pe_ix ix_list (pv 0) (pv 3) (fun _ _ => rfl)) pa_nil))))
                (pss_one (ps_set (i := 3) scBo.nd rfl (Or.inl rfl) (pv 4)))
                pss_nil)))
            (pss_cons (ps_expr (pe_bm PySem.F.plainAttrs_list PySem.F.slot_list_remove PySem.F.type_list_remove mt_remove (pv 1) (pa_cons (pv 3) pa_nil)))
            (pss_one (ps_expr (pe_bm PySem.F.plainAttrs_list PySem.F.slot_list_append PySem.F.type_list_append mt_append (pv 2) (pa_cons (pv 3) pa_nil))))))))
        (pss_one (ps_ret (pe_callTy call_tuple_of (by rfl) T.tuple boot_tuple (pa_cons (pv 2) pa_nil)))))))), ?_⟩
    refine ⟨.ref a, rfl, a, cs, rfl, hc, hn, ok, fun H1 s1 => ?_⟩
    obtain ⟨vs, hv, hvl⟩ := (hc.same s1).list
    refine ⟨.ref a, rfl, a, vs, rfl, .inl (SqL.of hv), _, rfl, RgOk.of_le (by omega) (by omega) (by omega) (by omega), fun pl hpl => ?_⟩
    rw [hvl, rg_ints]
    have npl : H pl = none := s1.free hpl
    have s2 : Same H (upd H1 pl (.lst ((List.range cs.length).map vI))) := same_mut s1 npl
    refine ⟨(by show 0 ≤ sizeLine; decide), fun pf hpf => ?_⟩
    have npf : H pf = none := s2.free hpf
    have nlf : pl ≠ pf := ne_of_none upd_same hpf
    refine ⟨fun m σ H' => ∃ (y3 y4 : Option V) (l fo : List Nat), σ = [some (.ref a), some (.ref pl), some (.ref pf), y3, y4] ∧ l.length = m ∧ Same H H' ∧ H' pl = some (.lst (l.map vI)) ∧ H' pf = some (.lst (fo.map vI)) ∧
      (fo ++ l).Perm (List.range cs.length) ∧ Falls (pick cs fo) ∧ (∀ x ∈ fo, ∀ y ∈ l, LE (ch cs x) (ch cs y)), ⟨cs.length, none, none, List.range cs.length, [], rfl, List.length_range, same_mut s2 npf, ?_, upd_same, List.Perm.refl _, trivial, fun x hx => nomatch hx⟩, fun m σ H' hw => ?_⟩
    · rw [upd_ne nlf, upd_same]
    obtain ⟨y3, y4, l, fo, rfl, hlm, sm, hl, hfo, hp, hf, hle⟩ := hw
    refine ⟨.ref pl, rfl, pl, l.map vI, rfl, .inl (SqL.of hl), _, _, rfl, rfl, _, rfl, ?_⟩
    rw [List.length_map]
    have hin : ∀ y ∈ l, y < cs.length := fun y hy => lt_of_perm hp (List.mem_append_right _ hy)
    by_cases hm : (0 : Int) < (l.length : Int)
    · refine iteP hm ⟨fun σ' H2 => ∃ m', m' < m ∧ ∃ (y3 y4 : Option V) (l fo : List Nat), σ' = [some (.ref a), some (.ref pl), some (.ref pf), y3, y4] ∧ l.length = m' ∧ Same H H2 ∧ H2 pl = some (.lst (l.map vI)) ∧ H2 pf = some (.lst (fo.map vI)) ∧
        (fo ++ l).Perm (List.range cs.length) ∧ Falls (pick cs fo) ∧ (∀ x ∈ fo, ∀ y ∈ l, LE (ch cs x) (ch cs y)), fun σ' H2 hx => hx, ?_⟩
      have h0 : 0 < l.length := by omega
      refine ⟨.ref pl, rfl, pl, l.map vI, 0, vI l[0], rfl, rfl, SqL.of hl, atI_nat (j := 0) (ints_at h0), ?_⟩
      refine ⟨.ref pl, rfl, pl, rfl, ⟨_, SqL.of hl⟩, for_list (K := K) (a := pl) (xs := l.map vI) (fun i σ H2 => ∃ (b : Nat) (y : Option V), σ = [some (.ref a), some (.ref pl), some (.ref pf), some (vI b), y] ∧ H2 = H' ∧ b ∈ l ∧ ∀ y ∈ l.take i, LE (ch cs b) (ch cs y))
        ⟨l[0], _, rfl, rfl, List.getElem_mem h0, fun y hy => nomatch hy⟩ (fun i σ H2 _ z => ?_) (fun i x σ H2 hi z => ?_) (fun σ H2 z => ?_)⟩
      · obtain ⟨b, y, _, rfl, _⟩ := z
        exact SqL.of hl
      · obtain ⟨b, y, rfl, rfl, hb, hz⟩ := z
        rw [List.getElem?_map, Option.map_eq_some_iff] at hi
        obtain ⟨u, hu, rfl⟩ := hi
        have hul : u ∈ l := List.mem_of_getElem? hu
        obtain ⟨us, p1, hv1, hvl1, hu1, hx1⟩ := (hc.same sm).get (ch_get (hin u hul))
        obtain ⟨us2, p0, hv2, hvl2, hu0, hx0⟩ := (hc.same sm).get (ch_get (hin b hb))
        refine ⟨.ref a, rfl, vI u, rfl, a, us, _, .ref p1, rfl, rfl, SqL.of hv1, atI_nat hu1, .ref a, rfl, vI b, rfl, a, us2, _, .ref p0, rfl, rfl, SqL.of hv2, atI_nat hu0, ?_⟩
        have et : l.take (i + 1) = l.take i ++ [u] := by
          rw [List.take_add_one, hu]
          rfl
        refine ⟨p1, p0, _, _, rfl, hx1, hx0, ok _ (ch_mem (hin u hul)), ok _ (ch_mem (hin b hb)), _, rfl, ite2 (fun g => ?_) (fun g => ?_)⟩
        · have g2 : ¬ LE (ch cs b) (ch cs u) := of_decide_eq_true g
          have g3 : LE (ch cs u) (ch cs b) := (LE.total _ _).resolve_left g2
          refine ⟨vI u, rfl, u, some (vI u), rfl, rfl, hul, fun y hy => ?_⟩
          rw [et] at hy
          rcases List.mem_append.mp hy with hy | hy
          · exact g3.trans (hz y hy)
          · rw [List.mem_singleton.mp hy]
            exact LE.refl _
        · have g2 : LE (ch cs b) (ch cs u) := by
            by_cases c : LE (ch cs b) (ch cs u)
            · exact c
            · exact absurd (decide_eq_true c) g
          refine ⟨b, some (vI u), rfl, rfl, hb, fun y hy => ?_⟩
          rw [et] at hy
          rcases List.mem_append.mp hy with hy | hy
          · exact hz y hy
          · rw [List.mem_singleton.mp hy]
            exact g2
      · obtain ⟨b, y, rfl, rfl, hb, hz⟩ := z
        rw [List.length_map, List.take_length] at hz
        obtain ⟨l1, l2, rfl⟩ := List.append_of_mem hb
        have nd : (l1 ++ b :: l2).Nodup := (List.nodup_append.mp (nodup_of_perm hp)).2.1
        have nb : b ∉ l1 := fun z => (List.nodup_append.mp nd).2.2 b z b (List.mem_cons_self ..) rfl
        refine ⟨.ref pl, rfl, .inl ⟨rfl, _, SqL.of hl⟩, vI b, rfl, pl, (l1 ++ b :: l2).map (fun n : Nat => (n : Int)), (b : Int), l1.length, rfl, rfl, ?_, ?_, fun m' hm' => ?_, ?_⟩
        · rw [mapI]
          exact hl
        · rw [List.getElem?_map, List.getElem?_append_right (Nat.le_refl _), Nat.sub_self]
          rfl
        · rw [List.getElem?_map, List.getElem?_append_left hm', List.getElem?_eq_getElem hm']
          intro z
          have z2 : ((l1[m'] : Nat) : Int) = (b : Int) := Option.some.inj z
          have z3 : l1[m'] = b := by omega
          exact nb (by rw [← z3]; exact List.getElem_mem hm')
        · have er : ((l1 ++ b :: l2).map (fun n : Nat => (n : Int))).eraseIdx l1.length = (l1 ++ l2).map (fun n : Nat => (n : Int)) := by
            have e := erase_at (l1.map fun n : Nat => (n : Int)) (b : Int) (l2.map fun n : Nat => (n : Int))
            rw [List.length_map] at e
            rw [List.map_append, List.map_cons, e, ← List.map_append]
          rw [er, mapI]
          have hfo2 : upd H2 pl (.lst ((l1 ++ l2).map vI)) pf = some (.lst (fo.map vI)) := by
            rw [upd_ne nlf.symm]
            exact hfo
          have lf : fo.length ≤ 40 := by
            have := hp.length_eq
            rw [List.length_append, List.length_range] at this
            omega
          refine ⟨.ref pf, rfl, .inl ⟨rfl, _, SqL.of hfo2⟩, vI b, rfl, pf, _, _, rfl, rfl, hfo2, ?_, ?_⟩
          · rw [List.length_map]
            exact small1000 (by omega)
          · have pm : (fo ++ [b] ++ (l1 ++ l2)).Perm (fo ++ (l1 ++ b :: l2)) := by
              rw [List.append_assoc]
              show (fo ++ (b :: (l1 ++ l2))).Perm (fo ++ (l1 ++ b :: l2))
              exact List.Perm.append_left fo List.perm_middle.symm
            refine ⟨(l1 ++ l2).length, ?_, _, _, l1 ++ l2, fo ++ [b], rfl, rfl, same_mut (same_mut sm npl) npf, ?_, ?_, pm.trans hp, falls_snoc hf fun x hx => hle x hx b hb, fun x hx y hy => ?_⟩
            · rw [← hlm, List.length_append, List.length_append, List.length_cons]
              omega
            · rw [upd_ne nlf, upd_same]
            · rw [upd_same, List.map_append]
              rfl
            · have hy2 : y ∈ l1 ++ b :: l2 := by
                rcases List.mem_append.mp hy with hy | hy
                · exact List.mem_append_left _ hy
                · exact List.mem_append_right _ (List.mem_cons_of_mem _ hy)
              rcases List.mem_append.mp hx with hx | hx
              · exact hle x hx y hy2
              · rw [List.mem_singleton.mp hx]
                exact hz y hy2
    · refine iteN hm ?_
      have e : l = [] := List.length_eq_zero_iff.mp (by omega)
      subst e
      rw [List.append_nil] at hp
      refine ⟨.ref pf, rfl, pf, _, rfl, .inl ⟨SqL.of hfo, fun t ht => ?_⟩⟩
      exact q _ t fo (same_mut sm (sm.free ht)) (sm.free ht) upd_same hp hf
end
end K51
namespace K51
open PySem PySem.Spec PyProof.Rows L2
/-! ### the mathematics of one turn -/
theorem low01 : low 0 1 = (0, 1) := by decide
theorem low11 : low 1 1 = (1, 1) := by decide
theorem spent_next {pre : List Ch} (x : Ch) : low ((low (EE pre) (NN pre)).1 * (low (QQ pre) (NN pre)).2 + x.c * (low (QQ pre) (NN pre)).1 * (low (EE pre) (NN pre)).2) ((low (EE pre) (NN pre)).2 * (low (QQ pre) (NN pre)).2) = low (EE (pre ++ [x])) (NN (pre ++ [x])) := by
  rw [turn_spent x (NN_pos pre), EE_snoc, NN_snoc]
theorem left_next {pre : List Ch} (x : Ch) : low ((low (QQ pre) (NN pre)).1 * x.q) ((low (QQ pre) (NN pre)).2 * x.n) = low (QQ (pre ++ [x])) (NN (pre ++ [x])) := by
  rw [turn_left x (NN_pos pre), QQ_snoc, NN_snoc]
theorem NN_five {xs : List Ch} (ok : ∀ x ∈ xs, x.ok) (h : xs.length ≤ 5) : NN xs ≤ 1002 ^ 5 := Nat.le_trans (NN_le ok) (Nat.pow_le_pow_right (by decide) h)
theorem q_int {x : Ch} (h : x.ok) : ((x.r : Int) + 1 - (x.f : Int)) = (x.q : Int) := by
  obtain ⟨_, h, _⟩ := h
  unfold Ch.q
  omega
theorem pick_take {cs : List Ch} {o : List Nat} {i u : Nat} (h : o[i]? = some u) : pick cs (o.take (i + 1)) = pick cs (o.take i) ++ [ch cs u] := by
  unfold pick
  rw [List.take_add_one, h, List.map_append]
  rfl
theorem pick_drop {cs : List Ch} {o : List Nat} {i u : Nat} (h : o[i]? = some u) : pick cs (o.drop i) = ch cs u :: pick cs (o.drop (i + 1)) := by
  unfold pick
  have hl := (List.getElem?_eq_some_iff.mp h).1
  have e := (List.getElem?_eq_some_iff.mp h).2
  rw [List.drop_eq_getElem_cons hl, List.map_cons, e]
theorem above_next {pre post : List Ch} (x : Ch) : EE pre * NN (x :: post) + x.c * (QQ pre * NN (x :: post)) = EE (pre ++ [x]) * NN post := by
  rw [EE_snoc]
  simp only [NN]
  simp only [Nat.mul_add, Nat.add_mul, Nat.mul_comm, Nat.mul_left_comm, Nat.mul_assoc]
theorem rest_next {pre post : List Ch} (x : Ch) : QQ pre * NN (x :: post) / x.n * x.q = QQ (pre ++ [x]) * NN post := by
  rw [QQ_snoc]
  simp only [NN]
  rw [show QQ pre * (x.n * NN post) = QQ pre * NN post * x.n by simp only [Nat.mul_comm, Nat.mul_left_comm, Nat.mul_assoc], Nat.mul_div_cancel _ (n_pos x)]
  simp only [Nat.mul_comm, Nat.mul_left_comm, Nat.mul_assoc]
section
variable {P : Program} {w : World} {K : PySem.W.Frag} {mg : Str → Option Value} {base : Heap}
/-! ### expected -/
def spEx : Sp := fun vs H Q _ => ∃ (a b : Addr) (cs : List Ch) (o : List Nat), vs = [.ref a, .ref b] ∧ ChsAt H a cs ∧ Sq H b (o.map vI) ∧ o.Perm (List.range cs.length) ∧ cs.length ≤ 5 ∧ (∀ x ∈ cs, x.ok) ∧
  ∀ H' p, Same H H' → H' p = some (.tup (vP (low (EE (pick cs o)) (NN (pick cs o))))) → Q (.ref p) H'
def PvEx (a b : Addr) (cs : List Ch) (o : List Nat) (H : Hp) (i : Nat) (σ : L2.St) (H' : Hp) : Prop := ∃ (ps pl : Addr) (y4 y5 y6 y7 : Option V), σ = [some (.ref a), some (.ref b), some (.ref ps), some (.ref pl), y4, y5, y6, y7] ∧ Same H H' ∧
  H' ps = some (.tup (vP (low (EE (pick cs (o.take i))) (NN (pick cs (o.take i)))))) ∧ H' pl = some (.tup (vP (low (QQ (pick cs (o.take i))) (NN (pick cs (o.take i))))))
theorem ok_Ex {f f1 f2 f3 : Addr} {fd fd1 fd2 fd3 : FuncData} (D : De K mg "expected" sEx ["chances", "order"] f fd) (T : Tx mg)
    (DAk : De K mg "ask_chances" sAk ["chances"] f1 fd1) (GAk : FnOk P w K mg base CX0 3 f1 fd1 ["chances"] spAk)
    (DIo : De K mg "is_order" sIo ["thing", "many"] f2 fd2) (GIo : FnOk P w K mg base CX0 2 f2 fd2 ["thing", "many"] spIo)
    (DLw : De K mg "lowest" sLw ["above", "below"] f3 fd3) (GLw : FnOk P w K mg base CX0 2 f3 fd3 ["above", "below"] spLw) : FnOk P w K mg base CX0 4 f fd ["chances", "order"] spEx := by
  refine D.F.ok scEx (fun vs H Q E h => ?_) (fun cdv A outer s H vs Q E hr h => ?_)
  · obtain ⟨a, b, cs, o, rfl, _⟩ := h
    rfl
  · obtain ⟨a, b, cs, o, rfl, hc, hb, hp, hn, ok, q⟩ := h
    refine ⟨_, (pss_cons (ps_expr (pe_call GAk (hr.mono (by decide)) (by rfl) DAk.g DAk.F.kp DAk.b .nil pass0 (pa_cons (pv 0) pa_nil)))
        (pss_cons (ps_if (pt_not (pt_val (pe_call GIo (hr.mono (by decide)) (by rfl) DIo.g DIo.F.kp DIo.b .nil pass0 (pa_cons (pv 1) (pa_cons (pe_callB call_len_seq (by rfl) T.len PySem.boot_len (pa_cons (pv 0) pa_nil)) pa_nil)))))
          pss_never
          pss_nil)
        (pss_cons (ps_set (i := 2) scEx.nd rfl (Or.inl rfl) (pe_tup (pa_cons pe_int (pa_cons pe_int pa_nil))))
        (pss_cons (ps_set (i := 3) scEx.nd rfl (Or.inl rfl) (pe_tup (pa_cons pe_int (pa_cons pe_int pa_nil))))
        (pss_cons (ps_for PassesOwn.never rfl (pi_any (pv 1)) (pg_name (i := 4) scEx.nd rfl (Or.inl rfl))
          (pss_cons (ps_asg (pe_ix ix_list (pv 0) (pv 4) (fun _ _ => rfl)) (pg_tup rfl (pgs_cons (pg_name (i := 5) scEx.nd rfl (Or.inl rfl)) (pgs_cons (pg_name (i := 6) scEx.nd rfl (Or.inl rfl)) (pgs_cons (pg_name (i := 7) scEx.nd rfl (Or.inl rfl)) pgs_nil)))))
            (pss_cons (ps_set (i := 2) scEx.nd rfl (Or.inl rfl) (pe_call GLw (hr.mono (by decide)) (by rfl) DLw.g DLw.F.kp DLw.b .nil pass0 (pa_cons (pe_op op_add (pe_op op_mul (pe_ix ix_tup (pv 2) pe_int (fun _ _ => rfl)) (pe_ix ix_tup (pv 3) pe_int (fun _ _ => rfl))) (pe_op op_mul (pe_op op_mul (pv 7) (pe_ix ix_tup (pv 3) pe_int (fun _ _ => rfl))) (pe_ix ix_tup (pv 2) pe_int (fun _ _ => rfl)))) (pa_cons (pe_op op_mul (pe_ix ix_tup (pv 2) pe_int (fun _ _ => rfl)) (pe_ix ix_tup (pv 3) pe_int (fun _ _ => rfl))) pa_nil))))
            (pss_one (ps_set (i := 3) scEx.nd rfl (Or.inl rfl) (pe_call GLw (hr.mono (by decide)) (by rfl) DLw.g DLw.F.kp DLw.b .nil pass0 (pa_cons (pe_op op_mul (pe_ix ix_tup (pv 3) pe_int (fun _ _ => rfl)) (pe_op op_sub (pe_op op_add (pv 5) pe_int) (pv 6))) (pa_cons (pe_op op_mul (pe_ix ix_tup (pv 3) pe_int (fun _ _ => rfl)) (pe_op op_add (pv 5) pe_int)) pa_nil))))))))
        (pss_one (ps_ret (pv 2)))))))), ?_⟩
    have hl : o.length = cs.length := len_of_perm hp
    refine ⟨.ref a, rfl, a, cs, rfl, hc, by omega, ok, fun H1 s1 => ?_⟩
    obtain ⟨vs, hv, hvl⟩ := (hc.same s1).list
    refine ⟨.ref b, rfl, .ref a, rfl, a, vs, rfl, .inl (SqL.of hv), ?_⟩
    rw [hvl]
    refine ⟨b, o, cs.length, rfl, hb.same s1, hp, by omega, fun H2 s2 => ⟨true, rfl, iteF ?_⟩⟩
    have s12 := s1.trans s2
    refine ⟨(by show 2 ≤ sizeLine; decide), fun ps hps => ?_⟩
    refine ⟨(by show 2 ≤ sizeLine; decide), fun pl hpl => ?_⟩
    have s3 : Same H (upd H2 ps (.tup [.int 0, .int 1])) := s12.trans (same_upd hps)
    have s4 : Same H (upd (upd H2 ps (.tup [.int 0, .int 1])) pl (.tup [.int 1, .int 1])) := s3.trans (same_upd hpl)
    have h0 : PvEx a b cs o H 0 [some (.ref a), some (.ref b), some (.ref ps), some (.ref pl), none, none, none, none] (upd (upd H2 ps (.tup [.int 0, .int 1])) pl (.tup [.int 1, .int 1])) := by
      refine ⟨ps, pl, none, none, none, none, rfl, s4, ?_, ?_⟩
      · rw [upd_ne (ne_of_none upd_same hpl), upd_same]
        show some (HO.tup [.int 0, .int 1]) = some (HO.tup (vP (low 0 1)))
        rw [low01]
        rfl
      · rw [upd_same]
        show some (HO.tup [.int 1, .int 1]) = some (HO.tup (vP (low 1 1)))
        rw [low11]
        rfl
    have hstep : ∀ i x σ H', (o.map vI)[i]? = some x → PvEx a b cs o H i σ H' → ∃ (u : Nat) (ps pl : Addr) (y4 y5 y6 y7 : Option V) (us : List V) (p : Addr), x = vI u ∧ o[i]? = some u ∧ u < cs.length ∧ σ = [some (.ref a), some (.ref b), some (.ref ps), some (.ref pl), y4, y5, y6, y7] ∧ Same H H' ∧
        H' ps = some (.tup (vP (low (EE (pick cs (o.take i))) (NN (pick cs (o.take i)))))) ∧ H' pl = some (.tup (vP (low (QQ (pick cs (o.take i))) (NN (pick cs (o.take i)))))) ∧ H' a = some (.lst us) ∧ us[u]? = some (.ref p) ∧ ChAt H' p (ch cs u) ∧ NN (pick cs (o.take i)) ≤ 1002 ^ 5 := by
      intro i x σ H' hi hP
      obtain ⟨ps, pl, y4, y5, y6, y7, e, sm, e1, e2⟩ := hP
      rw [List.getElem?_map, Option.map_eq_some_iff] at hi
      obtain ⟨u, hu, rfl⟩ := hi
      have hul : u < cs.length := lt_of_perm hp (List.mem_of_getElem? hu)
      obtain ⟨us, p, hv, hvl, hu1, hx1⟩ := (hc.same sm).get (ch_get hul)
      refine ⟨u, ps, pl, y4, y5, y6, y7, us, p, rfl, hu, hul, e, sm, e1, e2, hv, hu1, hx1, NN_five (pick_ok ok fun j hj => lt_of_perm hp (List.mem_of_mem_take hj)) ?_⟩
      unfold pick
      rw [List.length_map, List.length_take]
      omega
    have hend : ∀ σ H', PvEx a b cs o H (o.map vI).length σ H' → ∃ (ps : Addr) (y1 y2 y3 y4 y5 : Option V), σ = [some (.ref a), some (.ref b), some (.ref ps), y1, y2, y3, y4, y5] ∧ Q (.ref ps) H' := by
      intro σ H' hP
      obtain ⟨ps, pl, y4, y5, y6, y7, e, sm, e1, e2⟩ := hP
      rw [List.length_map, List.take_length] at e1
      exact ⟨ps, _, _, _, _, _, e, q _ _ sm e1⟩
    have hlist : ∀ i σ H', PvEx a b cs o H i σ H' → Same H H' := by
      intro i σ H' hP
      obtain ⟨ps, pl, y4, y5, y6, y7, e, sm, e1, e2⟩ := hP
      exact sm
    rcases hb with hb | hb
    · refine .inl ⟨.ref b, rfl, b, rfl, ⟨_, SqL.of (s4 _ _ hb)⟩, for_list (K := K) (a := b) (xs := o.map vI) (PvEx a b cs o H) h0 (fun i σ H' _ z => SqL.of (hlist i σ H' z _ _ hb)) (fun i x σ H' hi z => ?_) (fun σ H' z => ?_)⟩
      · obtain ⟨u, ps, pl, y4, y5, y6, y7, us, p, rfl, hu, hul, rfl, sm, e1, e2, hv, hu1, hx, hN⟩ := hstep i x σ H' hi z
        have t1 := low_le2 (a := EE (pick cs (o.take i))) (b := NN (pick cs (o.take i)))
        have t2 := low_le2 (a := QQ (pick cs (o.take i))) (b := NN (pick cs (o.take i)))
        have p1 := low_pos (a := EE (pick cs (o.take i))) (NN_pos (pick cs (o.take i)))
        have p2 := low_pos (a := QQ (pick cs (o.take i))) (NN_pos (pick cs (o.take i)))
        have n1 := spent_next (pre := pick cs (o.take i)) (ch cs u)
        have n2 := left_next (pre := pick cs (o.take i)) (ch cs u)
        rw [← pick_take hu] at n1 n2
        have okx := ok _ (ch_mem hul)
        have qi := q_int okx
        obtain ⟨o1, o2, o3, o4⟩ := okx
        have qb : (ch cs u).q ≤ 1001 := by unfold Ch.q; omega
        have nb : (ch cs u).n ≤ 1002 := by unfold Ch.n; omega
        generalize low (EE (pick cs (o.take i))) (NN (pick cs (o.take i))) = sp at *
        generalize low (QQ (pick cs (o.take i))) (NN (pick cs (o.take i))) = lf at *
        generalize NN (pick cs (o.take i)) = nn at *
        generalize ch cs u = x at *
        have b1 : sp.2 ≤ 1002 ^ 5 := Nat.le_trans t1 hN
        have b2 : lf.2 ≤ 1002 ^ 5 := Nat.le_trans t2 hN
        have k5 : (1002 ^ 5 : Nat) < 2 ^ 64 := by decide
        have b3 : sp.2 * lf.2 < 2 ^ 100 := Nat.lt_of_le_of_lt (Nat.mul_le_mul b1 b2) (by decide)
        have b4 : lf.2 * x.n < 2 ^ 100 := Nat.lt_of_le_of_lt (Nat.mul_le_mul b2 nb) (by decide)
        have b5 : 0 < sp.2 * lf.2 := Nat.mul_pos p1 p2
        have b6 : 0 < lf.2 * x.n := Nat.mul_pos p2 (n_pos x)
        have k1 : (-(2 ^ 64) : Int) < (sp.2 : Int) ∧ (sp.2 : Int) < 2 ^ 64 := by omega
        have k2 : (-(2 ^ 64) : Int) < (lf.2 : Int) ∧ (lf.2 : Int) < 2 ^ 64 := by omega
        refine ⟨.ref a, rfl, vI u, rfl, a, us, _, .ref p, rfl, rfl, SqL.of hv, atI_nat hu1, p, _, rfl, SqT.of hx, rfl, _, _, rfl, _, _, rfl, _, _, rfl, rfl, ?_⟩
        refine ⟨.ref ps, rfl, ps, _, 0, vI sp.1, rfl, rfl, SqT.of e1, atI_nat (j := 0) rfl, .ref pl, rfl, pl, _, 1, vI lf.2, rfl, rfl, SqT.of e2, atI_nat (j := 1) rfl, _, _, rfl, rfl, .inr k2, ?_⟩
        refine ⟨vI x.c, rfl, .ref pl, rfl, pl, _, 0, vI lf.1, rfl, rfl, SqT.of e2, atI_nat (j := 0) rfl, _, _, rfl, rfl, .inl ⟨by omega, by omega⟩, ?_⟩
        refine ⟨.ref ps, rfl, ps, _, 1, vI sp.2, rfl, rfl, SqT.of e1, atI_nat (j := 1) rfl, _, _, rfl, rfl, .inr k1, _, _, rfl, rfl, ?_⟩
        refine ⟨.ref ps, rfl, ps, _, 1, vI sp.2, rfl, rfl, SqT.of e1, atI_nat (j := 1) rfl, .ref pl, rfl, pl, _, 1, vI lf.2, rfl, rfl, SqT.of e2, atI_nat (j := 1) rfl, _, _, rfl, rfl, .inr k2, ?_⟩
        refine ⟨sp.1 * lf.2 + x.c * lf.1 * sp.2, sp.2 * lf.2, ?_, b5, b3, fun H3 p3 m3 np3 h3 => ?_⟩
        · rfl
        rw [n1] at h3
        have e2' := m3 _ _ e2
        refine ⟨.ref pl, rfl, pl, _, 0, vI lf.1, rfl, rfl, SqT.of e2', atI_nat (j := 0) rfl, vI x.r, rfl, _, _, rfl, rfl, vI x.f, rfl, _, _, rfl, rfl, ?_⟩
        refine ⟨_, (x.q : Int), rfl, congrArg V.int qi, .inr ⟨by omega, by omega⟩, ?_⟩
        refine ⟨.ref pl, rfl, pl, _, 1, vI lf.2, rfl, rfl, SqT.of e2', atI_nat (j := 1) rfl, vI x.r, rfl, _, _, rfl, rfl, _, _, rfl, rfl, .inr ⟨by omega, by omega⟩, ?_⟩
        refine ⟨lf.1 * x.q, lf.2 * x.n, ?_, b6, b4, fun H4 p4 m4 np4 h4 => ?_⟩
        · rfl
        rw [n2] at h4
        exact ⟨p3, p4, _, _, _, _, rfl, (sm.trans m3).trans m4, m4 _ _ h3, h4⟩
      · obtain ⟨ps, y1, y2, y3, y4, y5, rfl, hq⟩ := hend σ H' z
        exact ⟨.ref ps, rfl, hq⟩
    · refine .inr ⟨.ref b, rfl, b, rfl, ⟨_, SqT.of (s4 _ _ hb)⟩, for_tup (K := K) (a := b) (xs := o.map vI) (PvEx a b cs o H) h0 (fun i σ H' _ z => SqT.of (hlist i σ H' z _ _ hb)) (fun i x σ H' hi z => ?_) (fun σ H' z => ?_)⟩
      · obtain ⟨u, ps, pl, y4, y5, y6, y7, us, p, rfl, hu, hul, rfl, sm, e1, e2, hv, hu1, hx, hN⟩ := hstep i x σ H' hi z
        have t1 := low_le2 (a := EE (pick cs (o.take i))) (b := NN (pick cs (o.take i)))
        have t2 := low_le2 (a := QQ (pick cs (o.take i))) (b := NN (pick cs (o.take i)))
        have p1 := low_pos (a := EE (pick cs (o.take i))) (NN_pos (pick cs (o.take i)))
        have p2 := low_pos (a := QQ (pick cs (o.take i))) (NN_pos (pick cs (o.take i)))
        have n1 := spent_next (pre := pick cs (o.take i)) (ch cs u)
        have n2 := left_next (pre := pick cs (o.take i)) (ch cs u)
        rw [← pick_take hu] at n1 n2
        have okx := ok _ (ch_mem hul)
        have qi := q_int okx
        obtain ⟨o1, o2, o3, o4⟩ := okx
        have qb : (ch cs u).q ≤ 1001 := by unfold Ch.q; omega
        have nb : (ch cs u).n ≤ 1002 := by unfold Ch.n; omega
        generalize low (EE (pick cs (o.take i))) (NN (pick cs (o.take i))) = sp at *
        generalize low (QQ (pick cs (o.take i))) (NN (pick cs (o.take i))) = lf at *
        generalize NN (pick cs (o.take i)) = nn at *
        generalize ch cs u = x at *
        have b1 : sp.2 ≤ 1002 ^ 5 := Nat.le_trans t1 hN
        have b2 : lf.2 ≤ 1002 ^ 5 := Nat.le_trans t2 hN
        have k5 : (1002 ^ 5 : Nat) < 2 ^ 64 := by decide
        have b3 : sp.2 * lf.2 < 2 ^ 100 := Nat.lt_of_le_of_lt (Nat.mul_le_mul b1 b2) (by decide)
        have b4 : lf.2 * x.n < 2 ^ 100 := Nat.lt_of_le_of_lt (Nat.mul_le_mul b2 nb) (by decide)
        have b5 : 0 < sp.2 * lf.2 := Nat.mul_pos p1 p2
        have b6 : 0 < lf.2 * x.n := Nat.mul_pos p2 (n_pos x)
        have k1 : (-(2 ^ 64) : Int) < (sp.2 : Int) ∧ (sp.2 : Int) < 2 ^ 64 := by omega
        have k2 : (-(2 ^ 64) : Int) < (lf.2 : Int) ∧ (lf.2 : Int) < 2 ^ 64 := by omega
        refine ⟨.ref a, rfl, vI u, rfl, a, us, _, .ref p, rfl, rfl, SqL.of hv, atI_nat hu1, p, _, rfl, SqT.of hx, rfl, _, _, rfl, _, _, rfl, _, _, rfl, rfl, ?_⟩
        refine ⟨.ref ps, rfl, ps, _, 0, vI sp.1, rfl, rfl, SqT.of e1, atI_nat (j := 0) rfl, .ref pl, rfl, pl, _, 1, vI lf.2, rfl, rfl, SqT.of e2, atI_nat (j := 1) rfl, _, _, rfl, rfl, .inr k2, ?_⟩
        refine ⟨vI x.c, rfl, .ref pl, rfl, pl, _, 0, vI lf.1, rfl, rfl, SqT.of e2, atI_nat (j := 0) rfl, _, _, rfl, rfl, .inl ⟨by omega, by omega⟩, ?_⟩
        refine ⟨.ref ps, rfl, ps, _, 1, vI sp.2, rfl, rfl, SqT.of e1, atI_nat (j := 1) rfl, _, _, rfl, rfl, .inr k1, _, _, rfl, rfl, ?_⟩
        refine ⟨.ref ps, rfl, ps, _, 1, vI sp.2, rfl, rfl, SqT.of e1, atI_nat (j := 1) rfl, .ref pl, rfl, pl, _, 1, vI lf.2, rfl, rfl, SqT.of e2, atI_nat (j := 1) rfl, _, _, rfl, rfl, .inr k2, ?_⟩
        refine ⟨sp.1 * lf.2 + x.c * lf.1 * sp.2, sp.2 * lf.2, ?_, b5, b3, fun H3 p3 m3 np3 h3 => ?_⟩
        · rfl
        rw [n1] at h3
        have e2' := m3 _ _ e2
        refine ⟨.ref pl, rfl, pl, _, 0, vI lf.1, rfl, rfl, SqT.of e2', atI_nat (j := 0) rfl, vI x.r, rfl, _, _, rfl, rfl, vI x.f, rfl, _, _, rfl, rfl, ?_⟩
        refine ⟨_, (x.q : Int), rfl, congrArg V.int qi, .inr ⟨by omega, by omega⟩, ?_⟩
        refine ⟨.ref pl, rfl, pl, _, 1, vI lf.2, rfl, rfl, SqT.of e2', atI_nat (j := 1) rfl, vI x.r, rfl, _, _, rfl, rfl, _, _, rfl, rfl, .inr ⟨by omega, by omega⟩, ?_⟩
        refine ⟨lf.1 * x.q, lf.2 * x.n, ?_, b6, b4, fun H4 p4 m4 np4 h4 => ?_⟩
        · rfl
        rw [n2] at h4
        exact ⟨p3, p4, _, _, _, _, rfl, (sm.trans m3).trans m4, m4 _ _ h3, h4⟩
      · obtain ⟨ps, y1, y2, y3, y4, y5, rfl, hq⟩ := hend σ H' z
        exact ⟨.ref ps, rfl, hq⟩
end
end K51
namespace K51
open PySem PySem.Spec PyProof.Rows L2
theorem NN_take {cs : List Ch} {i : Nat} {x : Ch} (h : cs[i]? = some x) : NN (cs.take (i + 1)) = NN (cs.take i) * x.n := by
  rw [List.take_add_one, h]
  exact NN_snoc _ _
section
variable {P : Program} {w : World} {K : PySem.W.Frag} {mg : Str → Option Value} {base : Heap}
/-! ### _law_spent -/
def spSp : Sp := fun vs H Q _ => ∃ (a b : Addr) (cs : List Ch) (o : List Nat), vs = [.ref a, .ref b] ∧ ChsAt H a cs ∧ H b = some (.lst (o.map vI)) ∧ o.Perm (List.range cs.length) ∧ cs.length ≤ 5 ∧ (∀ x ∈ cs, x.ok) ∧
  ∀ H' p, Same H H' → H p = none → H' p = some (.tup (vP (low (EE (pick cs o)) (NN cs)))) → Q (.ref p) H'
theorem ok_Sp {f f1 : Addr} {fd fd1 : FuncData} (D : De K mg "_law_spent" sSp ["_law_chances_here", "_law_order_here"] f fd)
    (DDv : De K mg "_law_divisor" sDv ["_law_one", "_law_other"] f1 fd1) (GDv : FnOk P w K mg base CX0 1 f1 fd1 ["_law_one", "_law_other"] spCm) : FnOk P w K mg base CX0 2 f fd ["_law_chances_here", "_law_order_here"] spSp := by
  refine D.F.ok scSp (fun vs H Q E h => ?_) (fun cdv A outer s H vs Q E hr h => ?_)
  · obtain ⟨a, b, cs, o, rfl, _⟩ := h
    rfl
  · obtain ⟨a, b, cs, o, rfl, hc, hb, hp, hn, ok, q⟩ := h
    refine ⟨_, (pss_cons (ps_set (i := 2) scSp.nd rfl (Or.inl rfl) pe_int)
        (pss_cons (ps_for PassesOwn.never rfl (pi_list (pv 0)) (pg_tup rfl (pgs_cons (pg_name (i := 3) scSp.nd rfl (Or.inl rfl)) (pgs_cons (pg_name (i := 4) scSp.nd rfl (Or.inl rfl)) (pgs_cons (pg_name (i := 5) scSp.nd rfl (Or.inl rfl)) pgs_nil))))
          (pss_one (ps_set (i := 2) scSp.nd rfl (Or.inl rfl) (pe_op op_mul (pv 2) (pe_op op_add (pv 3) pe_int)))))
        (pss_cons (ps_set (i := 6) scSp.nd rfl (Or.inl rfl) pe_int)
        (pss_cons (ps_set (i := 7) scSp.nd rfl (Or.inl rfl) (pv 2))
        (pss_cons (ps_for PassesOwn.never rfl (pi_list (pv 1)) (pg_name (i := 8) scSp.nd rfl (Or.inl rfl))
          (pss_cons (ps_asg (pe_ix ix_list (pv 0) (pv 8) (fun _ _ => rfl)) (pg_tup rfl (pgs_cons (pg_name (i := 3) scSp.nd rfl (Or.inl rfl)) (pgs_cons (pg_name (i := 4) scSp.nd rfl (Or.inl rfl)) (pgs_cons (pg_name (i := 5) scSp.nd rfl (Or.inl rfl)) pgs_nil)))))
            (pss_cons (ps_set (i := 6) scSp.nd rfl (Or.inl rfl) (pe_op op_add (pv 6) (pe_op op_mul (pv 5) (pv 7))))
            (pss_one (ps_set (i := 7) scSp.nd rfl (Or.inl rfl) (pe_op op_mul (pe_op op_fdiv (pv 7) (pe_op op_add (pv 3) pe_int)) (pe_op op_sub (pe_op op_add (pv 3) pe_int) (pv 4))))))))
        (pss_cons (ps_set (i := 9) scSp.nd rfl (Or.inl rfl) (pe_call GDv (hr.mono (by decide)) (by rfl) DDv.g DDv.F.kp DDv.b .nil pass0 (pa_cons (pv 2) (pa_cons (pv 6) pa_nil))))
        (pss_one (ps_ret (pe_tup (pa_cons (pe_op op_fdivW (pv 6) (pv 9)) (pa_cons (pe_op op_fdivW (pv 2) (pv 9)) pa_nil))))))))))), ?_⟩
    have hl : o.length = cs.length := len_of_perm hp
    have hN : NN cs ≤ 1002 ^ 5 := NN_five ok hn
    obtain ⟨ps, hps, hpl, hpc⟩ := id hc
    -- the product
    refine ⟨.ref a, rfl, a, rfl, ⟨_, SqL.of hps⟩, for_list (K := K) (a := a) (xs := ps.map V.ref) (fun i σ H' => ∃ y3 y4 y5 : Option V, σ = [some (.ref a), some (.ref b), some (vI (NN (cs.take i))), y3, y4, y5, none, none, none, none] ∧ H' = H)
      ⟨none, none, none, rfl, rfl⟩ (fun i σ H' _ z => ?_) (fun i x σ H' hi z => ?_) (fun σ H' z => ?_)⟩
    · obtain ⟨_, _, _, _, rfl⟩ := z
      exact SqL.of hps
    · obtain ⟨y3, y4, y5, rfl, rfl⟩ := z
      rw [List.getElem?_map, Option.map_eq_some_iff] at hi
      obtain ⟨p, hip, rfl⟩ := hi
      have hil : i < cs.length := by
        rw [← hpl]
        exact (List.getElem?_eq_some_iff.mp hip).1
      have hx := hpc i p _ hip (List.getElem?_eq_getElem hil)
      have okx := ok _ (List.getElem_mem hil)
      have ht := NN_take (List.getElem?_eq_getElem hil)
      generalize cs[i] = x at *
      obtain ⟨o1, o2, o3, o4⟩ := okx
      refine ⟨p, _, rfl, SqT.of hx, rfl, _, _, rfl, _, _, rfl, _, _, rfl, rfl, ?_⟩
      refine ⟨_, rfl, vI x.r, rfl, _, _, rfl, rfl, _, _, rfl, rfl, .inr ⟨by omega, by omega⟩, ?_⟩
      refine ⟨some (vI x.r), some (vI x.f), some (vI x.c), ?_, rfl⟩
      rw [ht]
      rfl
    · obtain ⟨y3, y4, y5, rfl, rfl⟩ := z
      rw [List.length_map, hpl, List.take_length]
      -- above = 0, left = below
      refine ⟨_, rfl, ?_⟩
      -- the sum
      refine ⟨.ref b, rfl, b, rfl, ⟨_, SqL.of hb⟩, for_list (K := K) (a := b) (xs := o.map vI) (fun i σ H2 => ∃ y3 y4 y5 y8 : Option V, σ = [some (.ref a), some (.ref b), some (vI (NN cs)), y3, y4, y5, some (vI (EE (pick cs (o.take i)) * NN (pick cs (o.drop i)))), some (vI (QQ (pick cs (o.take i)) * NN (pick cs (o.drop i)))), y8, none] ∧ H2 = H')
        ⟨y3, y4, y5, none, ?_, rfl⟩ (fun i σ H2 _ z => ?_) (fun i x σ H2 hi z => ?_) (fun σ H2 z => ?_)⟩
      · have e1 : EE (pick cs (o.take 0)) * NN (pick cs (o.drop 0)) = 0 := Nat.zero_mul _
        have e2 : QQ (pick cs (o.take 0)) * NN (pick cs (o.drop 0)) = NN cs := by
          rw [List.drop_zero, pick_NN hp]
          exact Nat.one_mul _
        rw [e1, e2]
        rfl
      · obtain ⟨_, _, _, _, _, rfl⟩ := z
        exact SqL.of hb
      · obtain ⟨y3, y4, y5, y8, rfl, rfl⟩ := z
        rw [List.getElem?_map, Option.map_eq_some_iff] at hi
        obtain ⟨u, hu, rfl⟩ := hi
        have hul : u < cs.length := lt_of_perm hp (List.mem_of_getElem? hu)
        obtain ⟨us, p, hv, hvl, hu1, hx⟩ := hc.get (ch_get hul)
        have okx := ok _ (ch_mem hul)
        have a1 := above_next (pre := pick cs (o.take i)) (post := pick cs (o.drop (i + 1))) (ch cs u)
        have a2 := rest_next (pre := pick cs (o.take i)) (post := pick cs (o.drop (i + 1))) (ch cs u)
        rw [← pick_take hu, ← pick_drop hu] at a1 a2
        have qi := q_int okx
        generalize ch cs u = x at *
        have qb : x.q ≤ 1001 := by
          obtain ⟨o1, o2, o3, o4⟩ := okx
          unfold Ch.q
          omega
        obtain ⟨o1, o2, o3, o4⟩ := okx
        refine ⟨.ref a, rfl, vI u, rfl, a, us, _, .ref p, rfl, rfl, SqL.of hv, atI_nat hu1, p, _, rfl, SqT.of hx, rfl, _, _, rfl, _, _, rfl, _, _, rfl, rfl, ?_⟩
        refine ⟨_, rfl, vI x.c, rfl, _, rfl, _, _, rfl, rfl, .inl ⟨by omega, by omega⟩, _, _, rfl, rfl, ?_⟩
        refine ⟨_, rfl, vI x.r, rfl, _, _, rfl, rfl, _, _, rfl, rfl, ⟨by omega, by omega⟩, ?_⟩
        refine ⟨vI x.r, rfl, _, _, rfl, rfl, vI x.f, rfl, _, _, rfl, rfl, _, (x.q : Int), rfl, congrArg V.int qi, .inr ⟨by omega, by omega⟩, ?_⟩
        refine ⟨some (vI x.r), some (vI x.f), some (vI x.c), some (vI u), ?_, rfl⟩
        rw [← a1, ← a2]
        rfl
      · obtain ⟨y3, y4, y5, y8, rfl, rfl⟩ := z
        rw [List.length_map, List.take_length, List.drop_length]
        have e1 : EE (pick cs o) * NN (pick cs []) = EE (pick cs o) := Nat.mul_one _
        rw [e1]
        have g1 : 0 < Nat.gcd (NN cs) (EE (pick cs o)) := Nat.gcd_pos_of_pos_left _ (NN_pos cs)
        have g2 : Nat.gcd (NN cs) (EE (pick cs o)) < 2 ^ 100 := Nat.lt_of_le_of_lt (Nat.le_trans (Nat.gcd_le_left _ (NN_pos cs)) hN) (by decide)
        refine ⟨_, rfl, _, rfl, NN cs, EE (pick cs o), rfl, ?_⟩
        refine ⟨_, rfl, vI (Nat.gcd (NN cs) (EE (pick cs o))), rfl, _, _, rfl, rfl, div_ok g1 g2, _, rfl, vI (Nat.gcd (NN cs) (EE (pick cs o))), rfl, _, _, rfl, rfl, div_ok g1 g2, (by show 2 ≤ sizeLine; decide), fun t ht => ?_⟩
        refine q _ t (same_upd ht) ht ?_
        rw [upd_same]
        unfold low
        rw [Nat.gcd_comm (EE (pick cs o))]
        rfl
end
end K51
namespace K51
open PySem PySem.Spec PyProof.Rows L2
/-! ### lists of chances that change -/
theorem ChAt.ne {H : Hp} {p d : Addr} {x : Ch} {vs : List V} (h : ChAt H p x) (e : H d = some (.lst vs)) : p ≠ d := ne_of h e (fun z => nomatch z)
theorem ChsAt.but {H H' : Hp} {a d : Addr} {cs : List Ch} {vs : List V} (s : But d H H') (h : ChsAt H a cs) (n : a ≠ d) (e : H d = some (.lst vs)) : ChsAt H' a cs := by
  obtain ⟨ps, h1, h2, h3⟩ := h
  exact ⟨ps, s _ _ h1 n, h2, fun i p x a b => s _ _ (h3 i p x a b) ((h3 i p x a b).ne e)⟩
theorem ChsAt.nil {H : Hp} {a : Addr} (h : H a = some (.lst [])) : ChsAt H a [] := ⟨[], h, rfl, fun i p x a b => by cases b⟩
theorem ChsAt.snoc {H : Hp} {a p : Addr} {cs : List Ch} {x : Ch} (h : ChsAt H a cs) (hx : ChAt H p x) : ∃ vs : List V, H a = some (.lst vs) ∧ vs.length = cs.length ∧ ChsAt (upd H a (.lst (vs ++ [.ref p]))) a (cs ++ [x]) := by
  obtain ⟨ps, h1, h2, h3⟩ := h
  refine ⟨ps.map V.ref, h1, by rw [List.length_map, h2], ps ++ [p], ?_, ?_, fun i q y hq hy => ?_⟩
  · rw [upd_same, List.map_append]
    rfl
  · rw [List.length_append, List.length_append, h2]
    rfl
  · by_cases hi : i < ps.length
    · rw [List.getElem?_append_left hi] at hq
      rw [List.getElem?_append_left (by omega)] at hy
      have k := h3 i q y hq hy
      show upd H a _ q = _
      rw [upd_ne (k.ne h1)]
      exact k
    · have hl := (List.getElem?_eq_some_iff.mp hq).1
      rw [List.length_append, List.length_singleton] at hl
      have e : i = ps.length := by omega
      subst e
      rw [List.getElem?_append_right (Nat.le_refl _), Nat.sub_self] at hq
      rw [h2, List.getElem?_append_right (Nat.le_refl _), Nat.sub_self] at hy
      cases hq
      cases hy
      show upd H a _ p = _
      rw [upd_ne (hx.ne h1)]
      exact hx
theorem ChsAt.put {H : Hp} {a p : Addr} {cs : List Ch} {x : Ch} {k : Nat} (h : ChsAt H a cs) (hx : ChAt H p x) (hk : k < cs.length) : ∃ vs : List V, H a = some (.lst vs) ∧ vs.length = cs.length ∧ ChsAt (upd H a (.lst (vs.set k (.ref p)))) a (cs.set k x) := by
  obtain ⟨ps, h1, h2, h3⟩ := h
  refine ⟨ps.map V.ref, h1, by rw [List.length_map, h2], ps.set k p, ?_, ?_, fun i q y hq hy => ?_⟩
  · rw [upd_same, List.map_set]
  · rw [List.length_set, List.length_set, h2]
  · by_cases hi : k = i
    · subst hi
      rw [List.getElem?_set_self (by omega)] at hq hy
      cases hq
      cases hy
      show upd H a _ p = _
      rw [upd_ne (hx.ne h1)]
      exact hx
    · rw [List.getElem?_set_ne hi] at hq hy
      have k := h3 i q y hq hy
      show upd H a _ q = _
      rw [upd_ne (k.ne h1)]
      exact k
theorem mem_set_ok {cs : List Ch} {x : Ch} {k : Nat} (ok : ∀ y ∈ cs, y.ok) (hx : x.ok) : ∀ y ∈ cs.set k x, y.ok := fun y hy => by
  rcases List.mem_or_eq_of_mem_set hy with h | h
  · exact ok y h
  · rw [h]
    exact hx
/-- an item of a written list at a remainder -/
theorem menu (l : List Int) (d : Int) (n : Int) (hn : n = (l.length : Int)) (h : 0 < n) : ∃ z ∈ l, atI (l.map V.int) (d % n) = some (V.int z) := by
  have h0 := Int.emod_nonneg d (show n ≠ 0 by omega)
  have h1 := Int.emod_lt_of_pos d h
  have hk : (d % n).toNat < l.length := by omega
  refine ⟨l[(d % n).toNat], List.getElem_mem hk, at_of (j := (d % n).toNat) (by omega) ?_⟩
  rw [List.getElem?_map, List.getElem?_eq_getElem hk]
  rfl
/-- the last of a list of ints taken away -/
theorem pop_ints {ds : List Int} (h : ds ≠ []) : ∃ (y : Int) (ds' : List Int), ds.length = ds'.length + 1 ∧ (ds.map V.int)[(ds.map V.int).length - 1]? = some (.int y) ∧ (ds.map V.int).dropLast = ds'.map V.int := by
  have e := List.dropLast_concat_getLast h
  refine ⟨ds.getLast h, ds.dropLast, ?_, ?_, ?_⟩
  · rw [List.length_dropLast]
    have := List.length_pos_iff.mpr h
    omega
  · rw [← List.getLast?_eq_getElem?, List.getLast?_map, List.getLast?_eq_some_getLast h]
    rfl
  · rw [List.map_dropLast]
section
variable {P : Program} {w : World} {K : PySem.W.Frag} {mg : Str → Option Value} {base : Heap}
/-! ### _law_truth -/
def spTr : Sp := fun vs H Q _ => ∃ x y : Bool, vs = [.bl x, .bl y] ∧ Q (.bl (x == y)) H
theorem ok_Tr {f : Addr} {fd : FuncData} (D : De K mg "_law_truth" sTr ["_law_found", "_law_due"] f fd) (T : Tx mg) : FnOk P w K mg base CX0 1 f fd ["_law_found", "_law_due"] spTr := by
  refine D.F.ok scTr (fun vs H Q E h => ?_) (fun cdv A outer s H vs Q E hr h => ?_)
  · obtain ⟨x, y, rfl, _⟩ := h
    rfl
  · obtain ⟨x, y, rfl, q⟩ := h
    refine ⟨_, (pss_one (ps_ret (pe_and (pe_callB call_isi (by rfl) T.isi boot_isinstance (pa_cons (pv 0) (pa_cons (pe_bltn (v := .ty "bool") (by rfl) T.bool boot_bool rfl) pa_nil))) (pe_one (pe_cmpR op_eq (pv 0) (pv 1) (nomark _)))))), ?_⟩
    refine ⟨.bl x, rfl, .bl x, .ty "bool", .type "bool", .type "bool", true, rfl, ClsV.ty _, .base (.bl x), kit_ty (by decide +kernel), true, rfl, iteT ?_⟩
    refine ⟨.bl x, rfl, .bl y, rfl, rfl, ?_⟩
    show Q (.bl (decide (V.bl x = V.bl y))) H
    rw [dec_bl]
    exact q
/-! ### _law_chance, _law_chances -/
def spLc : Sp := fun vs H Q _ => ∃ d m : Int, vs = [.int d, .int m] ∧ ∀ H' p x, Same H H' → H p = none → ChAt H' p x → x.ok → Q (.ref p) H'
theorem ok_Lc {f : Addr} {fd : FuncData} (D : De K mg "_law_chance" sLc ["_law_draw", "_law_more"] f fd) : FnOk P w K mg base CX0 1 f fd ["_law_draw", "_law_more"] spLc := by
  refine D.F.ok scLc (fun vs H Q E h => ?_) (fun cdv A outer s H vs Q E hr h => ?_)
  · obtain ⟨d, m, rfl, _⟩ := h
    rfl
  · obtain ⟨d, m, rfl, q⟩ := h
    refine ⟨_, (pss_cons (ps_set (i := 2) scLc.nd rfl (Or.inl rfl) (pe_ix ix_list (pe_lst (pa_cons pe_int (pa_cons pe_int (pa_cons pe_int (pa_cons pe_int (pa_cons (pe_op op_mod (pe_op op_fdiv (pv 0) pe_int) pe_int) pa_nil)))))) (pe_op op_mod (pv 0) pe_int) (fun _ _ => rfl)))
        (pss_cons (ps_set (i := 3) scLc.nd rfl (Or.inl rfl) (pe_ix ix_list (pe_lst (pa_cons pe_int (pa_cons (pv 2) (pa_cons (pe_op op_mod (pe_op op_fdiv (pv 1) pe_int) (pe_op op_add (pv 2) pe_int)) (pa_cons (pe_op op_mod (pe_op op_fdiv (pv 1) pe_int) (pe_op op_add (pv 2) pe_int)) pa_nil))))) (pe_op op_mod (pv 1) pe_int) (fun _ _ => rfl)))
        (pss_one (ps_ret (pe_tup (pa_cons (pv 2) (pa_cons (pv 3) (pa_cons (pe_ix ix_list (pe_lst (pa_cons pe_int (pa_cons pe_int (pa_cons pe_int (pa_cons pe_int (pa_cons pe_int (pa_cons pe_int (pa_cons (pe_op op_add pe_int (pe_op op_mod (pe_op op_fdiv (pv 1) pe_int) pe_int)) pa_nil)))))))) (pe_op op_mod (pe_op op_fdiv (pv 1) pe_int) pe_int) (fun _ _ => rfl)) pa_nil)))))))), ?_⟩
    -- the runs
    refine ⟨.int d, rfl, d, 5, rfl, rfl, ⟨by decide, by decide⟩, _, _, rfl, rfl, (by show (0 : Int) < 40; decide), (by show 5 ≤ sizeLine; decide), fun p1 hp1 => ?_⟩
    obtain ⟨r, hr1, hr2⟩ := menu [0, 1, 3, 1000, d / 5 % 40] d 5 rfl (by decide)
    refine ⟨.int d, rfl, d, 5, rfl, rfl, (by show (0 : Int) < 5; decide), p1, _, _, .int r, rfl, rfl, SqL.of upd_same, hr2, ?_⟩
    have br : 0 ≤ r ∧ r ≤ 1000 := by
      simp only [List.mem_cons, List.not_mem_nil, or_false] at hr1
      omega
    have s1 : Same H (upd H p1 _) := same_upd (o := .lst [.int 0, .int 1, .int 3, .int 1000, .int (d / 5 % 40)]) hp1
    generalize upd H p1 _ = H1 at *
    -- the faults
    refine ⟨.int r, rfl, .int m, rfl, m, 28, rfl, rfl, ⟨by decide, by decide⟩, .int r, rfl, r, 1, rfl, rfl, _, _, rfl, rfl, (by show 0 < r + 1; omega), ?_⟩
    refine ⟨.int m, rfl, m, 28, rfl, rfl, ⟨by decide, by decide⟩, .int r, rfl, r, 1, rfl, rfl, _, _, rfl, rfl, (by show 0 < r + 1; omega), (by show 4 ≤ sizeLine; decide), fun p2 hp2 => ?_⟩
    obtain ⟨f, hf1, hf2⟩ := menu [0, r, m / 28 % (r + 1), m / 28 % (r + 1)] m 4 rfl (by decide)
    refine ⟨.int m, rfl, m, 4, rfl, rfl, (by show (0 : Int) < 4; decide), p2, _, _, .int f, rfl, rfl, SqL.of upd_same, hf2, ?_⟩
    have bf : 0 ≤ f ∧ f ≤ r := by
      have e0 := Int.emod_nonneg (m / 28) (show r + 1 ≠ 0 by omega)
      have e1 := Int.emod_lt_of_pos (m / 28) (show 0 < r + 1 by omega)
      generalize m / 28 % (r + 1) = z at *
      simp only [List.mem_cons, List.not_mem_nil, or_false] at hf1
      omega
    have s2 : Same H1 (upd H1 p2 _) := same_upd (o := .lst [.int 0, .int r, .int (m / 28 % (r + 1)), .int (m / 28 % (r + 1))]) hp2
    generalize upd H1 p2 _ = H2 at *
    -- the cost
    refine ⟨.int r, rfl, .int f, rfl, .int m, rfl, m, 8, rfl, rfl, ⟨by decide, by decide⟩, _, _, rfl, rfl, (by show (0 : Int) < 20; decide), _, _, rfl, rfl, (by show 7 ≤ sizeLine; decide), fun p3 hp3 => ?_⟩
    obtain ⟨c, hc1, hc2⟩ := menu [1, 1, 2, 3, 7, 100000, 1 + m / 8 % 20] (m / 4) 7 rfl (by decide)
    refine ⟨.int m, rfl, m, 4, rfl, rfl, ⟨by decide, by decide⟩, _, 7, rfl, rfl, (by show (0 : Int) < 7; decide), p3, _, _, .int c, rfl, rfl, SqL.of upd_same, hc2, (by show 3 ≤ sizeLine; decide), fun p hp => ?_⟩
    have bc : 1 ≤ c ∧ c ≤ 100000 := by
      simp only [List.mem_cons, List.not_mem_nil, or_false] at hc1
      omega
    have s3 : Same H2 (upd H2 p3 _) := same_upd (o := .lst [.int 1, .int 1, .int 2, .int 3, .int 7, .int 100000, .int (1 + m / 8 % 20)]) hp3
    generalize upd H2 p3 _ = H3 at *
    have s0 := (s1.trans s2).trans s3
    refine q _ p ⟨r.toNat, f.toNat, c.toNat⟩ (s0.trans (same_upd hp)) (s0.free hp) ?_ ⟨by show r.toNat ≤ 1000; omega, by show f.toNat ≤ r.toNat; omega, by show 1 ≤ c.toNat; omega, by show c.toNat ≤ 100000; omega⟩
    show upd H3 p _ p = some (.tup [.int ((r.toNat : Nat) : Int), .int ((f.toNat : Nat) : Int), .int ((c.toNat : Nat) : Int)])
    rw [upd_same, Int.toNat_of_nonneg br.1, Int.toNat_of_nonneg bf.1, Int.toNat_of_nonneg (by omega)]
def spLs : Sp := fun vs H Q _ => ∃ (dk : Addr) (k : Nat) (ds : List Int), vs = [.ref dk, vI k] ∧ H dk = some (.lst (ds.map V.int)) ∧ 2 * k ≤ ds.length ∧ k ≤ 5 ∧
  ∀ H' p cs (ds' : List Int), But dk H H' → H p = none → ChsAt H' p cs → cs.length = k → (∀ x ∈ cs, x.ok) → H' dk = some (.lst (ds'.map V.int)) → ds.length = ds'.length + 2 * k → Q (.ref p) H'
theorem ok_Ls {f f1 : Addr} {fd fd1 : FuncData} (D : De K mg "_law_chances" sLs ["_law_deck_here", "_law_many"] f fd) (T : Tx mg)
    (DLc : De K mg "_law_chance" sLc ["_law_draw", "_law_more"] f1 fd1) (GLc : FnOk P w K mg base CX0 1 f1 fd1 ["_law_draw", "_law_more"] spLc) : FnOk P w K mg base CX0 2 f fd ["_law_deck_here", "_law_many"] spLs := by
  refine D.F.ok scLs (fun vs H Q E h => ?_) (fun cdv A outer s H vs Q E hr h => ?_)
  · obtain ⟨dk, k, ds, rfl, _⟩ := h
    rfl
  · obtain ⟨dk, k, ds, rfl, hd, hk, hk5, q⟩ := h
    refine ⟨_, (pss_cons (ps_set (i := 2) scLs.nd rfl (Or.inl rfl) (pe_lst pa_nil))
        (pss_cons (ps_for PassesOwn.never rfl (pi_range1 (by rfl) T.range (pa_cons (pv 1) pa_nil)) (pg_name (i := 3) scLs.nd rfl (Or.inl rfl))
          (pss_cons (ps_set (i := 4) scLs.nd rfl (Or.inl rfl) (pe_bm0 PySem.F.plainAttrs_list PySem.F.slot_list_pop PySem.F.type_list_pop mt_pop (pv 0)))
            (pss_one (ps_expr (pe_bm PySem.F.plainAttrs_list PySem.F.slot_list_append PySem.F.type_list_append mt_append (pv 2) (pa_cons (pe_call GLc (hr.mono (by decide)) (by rfl) DLc.g DLc.F.kp DLc.b .nil pass0 (pa_cons (pv 4) (pa_cons (pe_bm0 PySem.F.plainAttrs_list PySem.F.slot_list_pop PySem.F.type_list_pop mt_pop (pv 0)) pa_nil))) pa_nil))))))
        (pss_one (ps_ret (pv 2))))), ?_⟩
    refine ⟨(by show 0 ≤ sizeLine; decide), fun pf hpf => ?_⟩
    have nd : pf ≠ dk := (ne_of_none hd hpf).symm
    refine ⟨_, rfl, _, rfl, by omega, by omega, ?_⟩
    refine for_up (n := k) (fun i σ H' => ∃ (y3 y4 : Option V) (cs : List Ch) (ds' : List Int), σ = [some (.ref dk), some (vI k), some (.ref pf), y3, y4] ∧ But dk H H' ∧ ChsAt H' pf cs ∧ cs.length = i ∧ (∀ x ∈ cs, x.ok) ∧ H' dk = some (.lst (ds'.map V.int)) ∧ ds.length = ds'.length + 2 * i)
      ⟨none, none, [], ds, rfl, But.of (same_upd hpf), ChsAt.nil upd_same, rfl, (fun x hx => nomatch hx), (by rw [upd_ne nd.symm]; exact hd), rfl⟩ (fun i σ H' hi z => ?_) (fun σ H' z => ?_)
    · obtain ⟨y3, y4, cs, ds', rfl, bt, hc, hl, ok, hdk, hlen⟩ := z
      have hne : ds' ≠ [] := fun z => by
        rw [z] at hlen
        simp only [List.length_nil] at hlen
        omega
      obtain ⟨y, ds2, l2, g2, d2⟩ := pop_ints hne
      have hne2 : ds2 ≠ [] := fun z => by
        rw [z] at l2
        simp only [List.length_nil] at l2
        omega
      obtain ⟨u, ds3, l3, g3, d3⟩ := pop_ints hne2
      refine ⟨.ref dk, rfl, .inl ⟨rfl, _, SqL.of hdk⟩, dk, _, .int y, rfl, rfl, hdk, g2, ?_⟩
      rw [d2]
      have hc1 := hc.but (But.upd (o := .lst (ds2.map V.int)) (But.refl (d := dk) H')) nd hdk
      have hdk1 : upd H' dk (.lst (ds2.map V.int)) dk = some (.lst (ds2.map V.int)) := upd_same
      have bt1 : But dk H (upd H' dk (.lst (ds2.map V.int))) := bt.upd
      generalize upd H' dk (.lst (ds2.map V.int)) = H1 at *
      obtain ⟨vs, hv, _⟩ := hc1.list
      refine ⟨.ref pf, rfl, .inl ⟨rfl, _, SqL.of hv⟩, .int y, rfl, .ref dk, rfl, .inl ⟨rfl, _, SqL.of hdk1⟩, dk, _, .int u, rfl, rfl, hdk1, g3, ?_⟩
      rw [d3]
      have hc2 := hc1.but (But.upd (o := .lst (ds3.map V.int)) (But.refl (d := dk) H1)) nd hdk1
      have hdk2 : upd H1 dk (.lst (ds3.map V.int)) dk = some (.lst (ds3.map V.int)) := upd_same
      have bt2 : But dk H (upd H1 dk (.lst (ds3.map V.int))) := bt1.upd
      generalize upd H1 dk (.lst (ds3.map V.int)) = H2 at *
      refine ⟨y, u, rfl, fun H3 p x s3 np hx okx => ?_⟩
      obtain ⟨vs3, hv3, hvl3, hc3⟩ := (hc2.same s3).snoc hx
      refine ⟨pf, vs3, .ref p, rfl, rfl, hv3, ?_, ?_⟩
      · exact small1000 (by omega)
      · refine ⟨some (vI i), some (.int y), cs ++ [x], ds3, rfl, ?_, hc3, ?_, ?_, ?_, ?_⟩
        · intro b o e n
          by_cases hb : b = pf
          · rw [hb, show H pf = none from hpf] at e
            cases e
          · rw [upd_ne hb]
            exact s3 _ _ (bt2 b o e n)
        · rw [List.length_append, hl]
          rfl
        · intro z hz
          rcases List.mem_append.mp hz with hz | hz
          · exact ok z hz
          · rw [List.mem_singleton.mp hz]
            exact okx
        · rw [upd_ne nd.symm]
          exact s3 _ _ hdk2
        · omega
    · obtain ⟨y3, y4, cs, ds', rfl, bt, hc, hl, ok, hdk, hlen⟩ := z
      exact ⟨.ref pf, rfl, q H' pf cs ds' bt hpf hc hl ok hdk hlen⟩
end
end K51
namespace K51
open PySem PySem.Spec PyProof.Rows L2
/-! ### lists of orders -/
def LsAt (H : Hp) (a : Addr) (os : List (List Nat)) : Prop := ∃ ps : List Addr, H a = some (.lst (ps.map V.ref)) ∧ ps.length = os.length ∧ ∀ (i : Nat) p o, ps[i]? = some p → os[i]? = some o → p ≠ a ∧ H p = some (.lst (o.map vI))
theorem LsAt.same {H H' : Hp} {a : Addr} {os : List (List Nat)} (s : Same H H') (h : LsAt H a os) : LsAt H' a os := by
  obtain ⟨ps, h1, h2, h3⟩ := h
  exact ⟨ps, s _ _ h1, h2, fun i p o x y => ⟨(h3 i p o x y).1, s _ _ (h3 i p o x y).2⟩⟩
theorem LsAt.nil {H : Hp} {a : Addr} (h : H a = some (.lst [])) : LsAt H a [] := ⟨[], h, rfl, fun i p x a b => by cases b⟩
theorem LsAt.snoc {H : Hp} {a p : Addr} {os : List (List Nat)} {o : List Nat} (h : LsAt H a os) (hx : H p = some (.lst (o.map vI))) (n : p ≠ a) : ∃ vs : List V, H a = some (.lst vs) ∧ vs.length = os.length ∧ LsAt (upd H a (.lst (vs ++ [.ref p]))) a (os ++ [o]) := by
  obtain ⟨ps, h1, h2, h3⟩ := h
  refine ⟨ps.map V.ref, h1, by rw [List.length_map, h2], ps ++ [p], ?_, ?_, fun i q y hq hy => ?_⟩
  · rw [upd_same, List.map_append]
    rfl
  · rw [List.length_append, List.length_append, h2]
    rfl
  · by_cases hi : i < ps.length
    · rw [List.getElem?_append_left hi] at hq
      rw [List.getElem?_append_left (by omega)] at hy
      have k := h3 i q y hq hy
      refine ⟨k.1, ?_⟩
      rw [upd_ne k.1]
      exact k.2
    · have hl := (List.getElem?_eq_some_iff.mp hq).1
      rw [List.length_append, List.length_singleton] at hl
      have e : i = ps.length := by omega
      subst e
      rw [List.getElem?_append_right (Nat.le_refl _), Nat.sub_self] at hq
      rw [h2, List.getElem?_append_right (Nat.le_refl _), Nat.sub_self] at hy
      cases hq
      cases hy
      refine ⟨n, ?_⟩
      rw [upd_ne n]
      exact hx
/-- one of them by its place -/
theorem LsAt.get {H : Hp} {a : Addr} {os : List (List Nat)} (h : LsAt H a os) {i : Nat} {o : List Nat} (hi : os[i]? = some o) : ∃ (vs : List V) (p : Addr), H a = some (.lst vs) ∧ vs.length = os.length ∧ vs[i]? = some (.ref p) ∧ H p = some (.lst (o.map vI)) := by
  obtain ⟨ps, h1, h2, h3⟩ := h
  have hl : i < ps.length := by
    rw [h2]
    exact (List.getElem?_eq_some_iff.mp hi).1
  refine ⟨ps.map V.ref, ps[i], h1, by rw [List.length_map, h2], ?_, (h3 i _ o (List.getElem?_eq_getElem hl) hi).2⟩
  rw [List.getElem?_map, List.getElem?_eq_getElem hl]
  rfl
/-! ### how the orders grow -/
def insO (k : Nat) (o : List Nat) (i : Nat) : List Nat := o.take i ++ [k] ++ o.drop i
def insAll (k : Nat) (o : List Nat) : List (List Nat) := (List.range (k + 1)).map (insO k o)
theorem allO_succ (k : Nat) : allO (k + 1) = (allO k).flatMap (insAll k) := rfl
theorem ins_take {k : Nat} {o : List Nat} {t : Nat} (h : t < k + 1) : (insAll k o).take (t + 1) = (insAll k o).take t ++ [insO k o t] := by
  unfold insAll
  rw [List.take_add_one, List.getElem?_map, List.getElem?_range h]
  rfl
theorem ins_len (k : Nat) (o : List Nat) : (insAll k o).length = k + 1 := by
  unfold insAll
  rw [List.length_map, List.length_range]
theorem flat_take {k : Nat} {os : List (List Nat)} {j : Nat} {o : List Nat} (h : os[j]? = some o) : (os.take (j + 1)).flatMap (insAll k) = (os.take j).flatMap (insAll k) ++ insAll k o := by
  rw [List.take_add_one, h, List.flatMap_append]
  show _ ++ [o].flatMap (insAll k) = _
  rw [List.flatMap_singleton]
theorem flat_len (k : Nat) : ∀ os : List (List Nat), (os.flatMap (insAll k)).length = os.length * (k + 1)
  | [] => (Nat.zero_mul _).symm
  | o :: os => by
    rw [List.flatMap_cons, List.length_append, ins_len, flat_len k os, List.length_cons, Nat.add_mul, Nat.one_mul, Nat.add_comm]
theorem allO_few : ∀ k : Nat, k < 5 → (allO k).length ≤ 24
  | 0, _ => by decide
  | 1, _ => by decide
  | 2, _ => by decide
  | 3, _ => by decide
  | 4, _ => by decide
  | k + 5, h => absurd h (by omega)
theorem cut_take (xs : List V) (k : Nat) : cutV xs none (some (k : Int)) = xs.take k := by
  unfold cutV
  rw [HT.sIx_none, HT.sIx_nat, List.drop_zero, Nat.sub_zero]
  by_cases h : k ≤ xs.length
  · rw [Nat.min_eq_left h]
  · rw [Nat.min_eq_right (by omega), List.take_length, List.take_of_length_le (by omega)]
theorem cut_drop (xs : List V) (k : Nat) (h : k ≤ xs.length) : cutV xs (some (k : Int)) none = xs.drop k := by
  unfold cutV
  rw [HT.sIx_none, HT.sIx_nat, Nat.min_eq_left h, List.take_of_length_le (by rw [List.length_drop] <;> omega)]
theorem ins_map (k : Nat) (o : List Nat) (t : Nat) : (o.map vI).take t ++ [vI k] ++ (o.map vI).drop t = (insO k o t).map vI := by
  unfold insO
  rw [List.map_append, List.map_append, List.map_take, List.map_drop]
  rfl
section
variable {P : Program} {w : World} {K : PySem.W.Frag} {mg : Str → Option Value} {base : Heap}
def spAo : Sp := fun vs H Q _ => ∃ k : Nat, vs = [vI k] ∧ k ≤ 5 ∧ ∀ H' p, Same H H' → H p = none → LsAt H' p (allO k) → Q (.ref p) H'
theorem ok_Ao {f : Addr} {fd : FuncData} (D : De K mg "_law_all_orders" sAo ["_law_many"] f fd) (T : Tx mg) : FnOk P w K mg base CX0 1 f fd ["_law_many"] spAo := by
  refine D.F.ok scAo (fun vs H Q E h => ?_) (fun cdv A outer s H vs Q E hr h => ?_)
  · obtain ⟨k, rfl, _⟩ := h
    rfl
  · obtain ⟨k, rfl, hk, q⟩ := h
    refine ⟨_, (pss_cons (ps_set (i := 1) scAo.nd rfl (Or.inl rfl) (pe_lst (pa_cons (pe_lst pa_nil) pa_nil)))
        (pss_cons (ps_for PassesOwn.never rfl (pi_range1 (by rfl) T.range (pa_cons (pv 0) pa_nil)) (pg_name (i := 2) scAo.nd rfl (Or.inl rfl))
          (pss_cons (ps_set (i := 3) scAo.nd rfl (Or.inl rfl) (pe_lst pa_nil))
            (pss_cons (ps_for PassesOwn.never rfl (pi_list (pv 1)) (pg_name (i := 4) scAo.nd rfl (Or.inl rfl))
              (pss_one (ps_for PassesOwn.never rfl (pi_range1 (by rfl) T.range (pa_cons (pe_op op_add (pv 2) pe_int) pa_nil)) (pg_name (i := 5) scAo.nd rfl (Or.inl rfl))
                (pss_one (ps_expr (pe_bm PySem.F.plainAttrs_list PySem.F.slot_list_append PySem.F.type_list_append mt_append (pv 3) (pa_cons (pe_op op_cat (pe_op op_cat (pe_slice sl_list (pv 4) po_none (po_some (pv 5))) (pe_lst (pa_cons (pv 2) pa_nil))) (pe_slice sl_list (pv 4) (po_some (pv 5)) po_none)) pa_nil)))))))
            (pss_one (ps_set (i := 1) scAo.nd rfl (Or.inl rfl) (pv 3))))))
        (pss_one (ps_ret (pv 1))))), ?_⟩
    refine ⟨(by show 0 ≤ sizeLine; decide), fun pe hpe => ⟨(by show 1 ≤ sizeLine; decide), fun pf hpf => ?_⟩⟩
    have s1 : Same H (upd H pe (.lst [])) := same_upd hpe
    have npf : H pf = none := s1.free hpf
    have nef : pe ≠ pf := ne_of_none upd_same hpf
    refine ⟨_, rfl, _, rfl, by omega, by omega, ?_⟩
    refine for_up (n := k) (fun i σ H' => ∃ (pf : Addr) (y2 y3 y4 y5 : Option V), σ = [some (vI k), some (.ref pf), y2, y3, y4, y5] ∧ Same H H' ∧ H pf = none ∧ LsAt H' pf (allO i))
      ⟨pf, none, none, none, none, rfl, s1.trans (same_upd hpf), npf, ?_⟩ (fun i σ H' hi z => ?_) (fun σ H' z => ?_)
    · refine ⟨[pe], upd_same, rfl, fun j p o a b => ?_⟩
      cases j with
      | zero =>
        cases a
        cases b
        refine ⟨nef, ?_⟩
        rw [upd_ne nef, upd_same]
        rfl
      | succ j => cases a
    · obtain ⟨pf, y2, y3, y4, y5, rfl, sm, npf, hL⟩ := z
      refine ⟨(by show 0 ≤ sizeLine; decide), fun pl hpl => ?_⟩
      have npl : H pl = none := sm.free hpl
      obtain ⟨ps, hps, hpl2, hpo⟩ := id hL
      have few := allO_few i (by omega)
      have sl : Same H' (upd H' pl (.lst [])) := same_upd hpl
      refine ⟨.ref pf, rfl, pf, rfl, ⟨_, SqL.of (sl _ _ hps)⟩, for_list (K := K) (a := pf) (xs := ps.map V.ref) (fun j σ H2 => ∃ (y4 y5 : Option V), σ = [some (vI k), some (.ref pf), some (vI i), some (.ref pl), y4, y5] ∧ Same H' H2 ∧ LsAt H2 pl (((allO i).take j).flatMap (insAll i)))
        ⟨y4, y5, rfl, sl, LsAt.nil upd_same⟩ (fun j σ H2 _ z => ?_) (fun j x σ H2 hj z => ?_) (fun σ H2 z => ?_)⟩
      · obtain ⟨_, _, _, s2, _⟩ := z
        exact SqL.of (s2 _ _ hps)
      · obtain ⟨y4, y5, rfl, s2, hl2⟩ := z
        rw [List.getElem?_map, Option.map_eq_some_iff] at hj
        obtain ⟨p, hjp, rfl⟩ := hj
        have hjl : j < (allO i).length := by
          rw [← hpl2]
          exact (List.getElem?_eq_some_iff.mp hjp).1
        have hjo : (allO i)[j]? = some (allO i)[j] := List.getElem?_eq_getElem hjl
        have lo : ((allO i)[j]).length = i := allO_len (List.getElem_mem hjl)
        have hpp := (hpo j p _ hjp hjo).2
        generalize (allO i)[j] = o at *
        have ft := flat_take (k := i) hjo
        have fl := flat_len i ((allO i).take j)
        have fm : ((allO i).take j).length ≤ 24 := by
          rw [List.length_take]
          omega
        have fx : ((allO i).take j).length * (i + 1) ≤ 24 * 5 := Nat.mul_le_mul fm (by omega)
        generalize ((allO i).take j).flatMap (insAll i) = os at *
        refine ⟨_, rfl, _, _, rfl, rfl, _, rfl, by omega, by omega, ?_⟩
        have ei : ((i : Int) + 1).toNat = i + 1 := by omega
        refine for_up (n := ((i : Int) + 1).toNat) (fun t σ H3 => ∃ y5 : Option V, σ = [some (vI k), some (.ref pf), some (vI i), some (.ref pl), some (.ref p), y5] ∧ Same H' H3 ∧ LsAt H3 pl (os ++ (insAll i o).take t))
          ⟨y5, rfl, s2, ?_⟩ (fun t σ H3 ht z => ?_) (fun σ H3 z => ?_)
        · rw [List.take_zero, List.append_nil]
          exact hl2
        · obtain ⟨y5, rfl, s3, hl3⟩ := z
          rw [ei] at ht
          obtain ⟨qs, hq1, hq2, hq3⟩ := id hl3
          have hpp3 := s3 _ _ hpp
          refine ⟨.ref pl, rfl, .inl ⟨rfl, _, SqL.of hq1⟩, ?_⟩
          -- order[:at] + [k]
          refine ⟨.ref p, rfl, vI t, rfl, _, rfl, p, o.map vI, rfl, SqL.of hpp3, fun c1 n1 => ?_⟩
          rw [cut_take]
          refine ⟨vI i, rfl, (by show 1 ≤ sizeLine; decide), fun c2 n2 => ?_⟩
          have s4 : Same H3 (upd H3 c1 (.lst ((o.map vI).take t))) := same_upd n1
          have s5 := s4.trans (same_upd (o := .lst [vI i]) n2)
          have g1 : upd (upd H3 c1 (.lst ((o.map vI).take t))) c2 (.lst [vI i]) c1 = some (.lst ((o.map vI).take t)) := by
            rw [upd_ne (ne_of_none upd_same n2), upd_same]
          have g2 : upd (upd H3 c1 (.lst ((o.map vI).take t))) c2 (.lst [vI i]) c2 = some (.lst [vI i]) := upd_same
          generalize upd (upd H3 c1 (.lst ((o.map vI).take t))) c2 (.lst [vI i]) = H5 at *
          refine ⟨c1, c2, _, _, rfl, rfl, g1, g2, ?_, fun c3 n3 => ?_⟩
          · rw [List.length_take, List.length_map]
            exact Nat.le_of_lt (small1000 (by show min t o.length + 1 ≤ 1000; omega))
          have s6 := s5.trans (same_upd (o := .lst ((o.map vI).take t ++ [vI i])) n3)
          have g3 : upd H5 c3 (.lst ((o.map vI).take t ++ [vI i])) c3 = some (.lst ((o.map vI).take t ++ [vI i])) := upd_same
          generalize upd H5 c3 (.lst ((o.map vI).take t ++ [vI i])) = H6 at *
          -- .. + order[at:]
          refine ⟨.ref p, rfl, vI t, rfl, _, rfl, p, o.map vI, rfl, SqL.of (s6 _ _ hpp3), fun c4 n4 => ?_⟩
          rw [cut_drop _ _ (by rw [List.length_map]; omega)]
          have s7 := s6.trans (same_upd (o := .lst ((o.map vI).drop t)) n4)
          have g4 : upd H6 c4 (.lst ((o.map vI).drop t)) c3 = some (.lst ((o.map vI).take t ++ [vI i])) := by
            rw [upd_ne (ne_of_none g3 n4)]
            exact g3
          have g5 : upd H6 c4 (.lst ((o.map vI).drop t)) c4 = some (.lst ((o.map vI).drop t)) := upd_same
          generalize upd H6 c4 (.lst ((o.map vI).drop t)) = H7 at *
          refine ⟨c3, c4, _, _, rfl, rfl, g4, g5, ?_, fun c5 n5 => ?_⟩
          · rw [List.length_append, List.length_take, List.length_drop, List.length_map]
            exact Nat.le_of_lt (small1000 (by show min t o.length + 1 + (o.length - t) ≤ 1000; omega))
          rw [ins_map]
          have s8 := s7.trans (same_upd (o := .lst ((insO i o t).map vI)) n5)
          have g6 : upd H7 c5 (.lst ((insO i o t).map vI)) c5 = some (.lst ((insO i o t).map vI)) := upd_same
          have n6 : c5 ≠ pl := (ne_of_none (s7 _ _ hq1) n5).symm
          generalize upd H7 c5 (.lst ((insO i o t).map vI)) = H8 at *
          obtain ⟨vs, v1, v2, v3⟩ := (hl3.same s8).snoc g6 n6
          refine ⟨pl, vs, .ref c5, rfl, rfl, v1, ?_, ?_⟩
          · rw [v2, List.length_append, List.length_take, ins_len, fl]
            exact small1000 (by omega)
          · refine ⟨some (vI t), rfl, same_mut (s3.trans s8) hpl, ?_⟩
            rw [ins_take ht, ← List.append_assoc]
            exact v3
        · obtain ⟨y5, rfl, s3, hl3⟩ := z
          refine ⟨_, y5, rfl, s3, ?_⟩
          rw [ei, List.take_of_length_le (by rw [ins_len]; omega)] at hl3
          rw [ft]
          exact hl3
      · obtain ⟨y4, y5, rfl, s2, hl2⟩ := z
        rw [List.length_map, hpl2, List.take_length, ← allO_succ] at hl2
        exact ⟨_, rfl, pl, _, _, _, _, rfl, sm.trans s2, npl, hl2⟩
    · obtain ⟨pf, y2, y3, y4, y5, rfl, sm, npf, hL⟩ := z
      exact ⟨_, rfl, q H' pf sm npf hL⟩
end
end K51
namespace K51
open PySem PySem.Spec PyProof.Rows L2
theorem dp_ints {K : PySem.W.Frag} {H : Hp} : ∀ ns : List Int, DpAll K H (ns.map V.int) (ns.map PyData.int)
  | [] => .nil
  | n :: ns => .cons (.int n) (dp_ints ns)
theorem eqv_nil (ns : List Int) : PyData.eqv (.list (ns.map PyData.int)) (.list []) = true ↔ ns = [] := by
  cases ns with
  | nil => exact ⟨fun _ => rfl, fun _ => by simp [PyData.eqv, PyData.eqvAll]⟩
  | cons n ns => exact ⟨fun h => by simp [PyData.eqv, PyData.eqvAll] at h, fun h => by cases h⟩
theorem zints_at {ms : List Int} {i : Nat} (h : i < ms.length) : (ms.map V.int)[i]? = some (.int ms[i]) := by
  rw [List.getElem?_map, List.getElem?_eq_getElem h]
  rfl
section
variable {P : Program} {w : World} {K : PySem.W.Frag} {mg : Str → Option Value} {base : Heap}
/-! ### _law_deck -/
def spDk (K : PySem.W.Frag) : Sp := fun vs H Q _ => ∃ (a : Addr) (ns : List Int), vs = [.ref a, .int 24] ∧ SqL K H a (ns.map V.int) ∧ ∀ H' p (ds : List Int), Same H H' → H p = none → H' p = some (.lst (ds.map V.int)) → ds.length = 24 → Q (.ref p) H'
theorem ok_Dk {f : Addr} {fd : FuncData} (D : De K mg "_law_deck" sDk ["_law_script", "_law_many"] f fd) (T : Tx mg) : FnOk P w K mg base CX0 1 f fd ["_law_script", "_law_many"] (spDk K) := by
  refine D.F.ok scDk (fun vs H Q E h => ?_) (fun cdv A outer s H vs Q E hr h => ?_)
  · obtain ⟨a, ns, rfl, _⟩ := h
    rfl
  · obtain ⟨a, ns, rfl, hS, q⟩ := h
    refine ⟨_, (pss_cons (ps_set (i := 2) scDk.nd rfl (Or.inl rfl) (pe_callTy call_list_of (by rfl) T.list boot_list (pa_cons (pv 0) pa_nil)))
        (Evl.pss_cut (ps_if (pt_cmpR (op_eqD hr.units) (pv 2) (pe_lst pa_nil) (nomark _))
          (pss_one (ps_set (i := 2) scDk.nd rfl (Or.inl rfl) (pe_lst (pa_cons pe_int pa_nil))))
          pss_nil)
        (pss_cons (ps_set (i := 3) scDk.nd rfl (Or.inl rfl) (pe_op op_mod (pe_ix ix_list (pv 2) pe_int (fun _ _ => rfl)) pe_int))
        (pss_cons (ps_asg (pe_op op_fdiv (pe_ix ix_list (pv 2) pe_int (fun _ _ => rfl)) pe_int) (pg_sub (pv 2) pe_int set_list))
        (pss_cons (ps_set (i := 4) scDk.nd rfl (Or.inl rfl) (pe_lst pa_nil))
        (pss_cons (ps_for PassesOwn.never rfl (pi_range1 (by rfl) T.range (pa_cons (pv 1) pa_nil)) (pg_name (i := 5) scDk.nd rfl (Or.inl rfl))
          (pss_cons (ps_set (i := 6) scDk.nd rfl (Or.inl rfl) (pe_op op_mod (pv 5) (pe_callB call_len_seq (by rfl) T.len PySem.boot_len (pa_cons (pv 2) pa_nil))))
            (pss_cons (ps_set (i := 7) scDk.nd rfl (Or.inl rfl) (pe_op op_mod (pe_ix ix_list (pv 2) (pv 6) (fun _ _ => rfl)) pe_int))
            (Evl.pss_cut (ps_if (pt_cmpR op_eq (pv 3) pe_int (nomark _))
              (pss_cons (ps_set (i := 7) scDk.nd rfl (Or.inl rfl) (pe_op op_mod (pe_op op_add (pe_op op_add (pe_ix ix_list (pv 2) (pv 6) (fun _ _ => rfl)) (pe_op op_mul (pe_op op_mul (pv 5) (pv 5)) pe_int)) (pe_op op_mul pe_int (pv 5))) pe_int))
                (pss_cons (ps_set (i := 7) scDk.nd rfl (Or.inl rfl) (pe_op op_mod (pe_op op_add (pe_op op_mul (pv 7) (pe_ix ix_list (pe_lst (pa_cons pe_int (pa_cons pe_int (pa_cons pe_int (pa_cons pe_int pa_nil))))) (pe_op op_mod (pv 5) pe_int) (fun _ _ => rfl))) pe_int) pe_int))
                (pss_one (ps_set (i := 7) scDk.nd rfl (Or.inl rfl) (pe_op op_mod (pe_op op_mul (pv 7) (pv 7)) pe_int)))))
              (pss_one (ps_asg (pe_op op_fdiv (pe_ix ix_list (pv 2) (pv 6) (fun _ _ => rfl)) pe_int) (pg_sub (pv 2) (pv 6) set_list))))
            (pss_one (ps_expr (pe_bm PySem.F.plainAttrs_list PySem.F.slot_list_append PySem.F.type_list_append mt_append (pv 4) (pa_cons (pv 7) pa_nil))))))))
        (pss_cons (ps_expr (pe_bm0 PySem.F.plainAttrs_list PySem.F.slot_list_reverse PySem.F.type_list_reverse mt_reverse (pv 4)))
        (pss_one (ps_ret (pv 4)))))))))), ?_⟩
    refine ⟨.ref a, rfl, a, ns.map V.int, rfl, .inl hS, fun p0 hp0 => ?_⟩
    refine ⟨fun σ' H' => ∃ (pr : Addr) (ms : List Int), σ' = [some (.ref a), some (.int 24), some (.ref pr), none, none, none, none, none] ∧ Same H H' ∧ H pr = none ∧ H' pr = some (.lst (ms.map V.int)) ∧ ms ≠ [], ?_, fun σ' H' hM => ?_⟩
    · have s1 : Same H (upd H p0 (.lst (ns.map V.int))) := same_upd hp0
      refine ⟨.ref p0, rfl, (by show 0 ≤ sizeLine; decide), fun p1 hp1 => ?_⟩
      have s2 := s1.trans (same_upd (o := .lst []) hp1)
      have g0 : upd (upd H p0 (.lst (ns.map V.int))) p1 (.lst []) p0 = some (.lst (ns.map V.int)) := by
        rw [upd_ne (ne_of_none upd_same hp1), upd_same]
      refine ⟨.list (ns.map PyData.int), .list [], .lst (SqL.of g0) (dp_ints ns), .lst (SqL.of upd_same) .nil, PySem.W.ke_shaped_ints ns, PySem.W.ke_shaped_ints [], _, rfl, ite2 (fun e => ?_) (fun e => ?_)⟩
      · refine ⟨(by show 1 ≤ sizeLine; decide), fun p2 hp2 => ?_⟩
        exact ⟨p2, [4], rfl, s2.trans (same_upd hp2), s2.free hp2, upd_same, by simp⟩
      · exact ⟨p0, ns, rfl, s2, hp0, g0, fun z => e ((eqv_nil ns).mpr z)⟩
    · obtain ⟨pr, ms, rfl, sm, npr, hpr, hne⟩ := hM
      have hl : 0 < ms.length := List.length_pos_iff.mpr hne
      refine ⟨.ref pr, rfl, pr, ms.map V.int, 0, .int ms[0], rfl, rfl, SqL.of hpr, atI_nat (j := 0) (zints_at hl), _, 2, rfl, rfl, (by show (0 : Int) < 2; decide), ?_⟩
      refine ⟨.ref pr, rfl, pr, ms.map V.int, 0, .int ms[0], rfl, rfl, SqL.of hpr, atI_nat (j := 0) (zints_at hl), _, 2, rfl, rfl, ⟨by decide, by decide⟩, ?_⟩
      refine ⟨.ref pr, rfl, pr, ms.map V.int, 0, 0, rfl, rfl, hpr, Evl.ixN_nat (j := 0) (by rw [List.length_map]; exact hl), ?_⟩
      refine ⟨(by show 0 ≤ sizeLine; decide), fun pd hpd => ?_⟩
      have s1 := same_mut (o := .lst ((ms.map V.int).set 0 (.int (ms[0] / 2)))) sm npr
      have g1 : upd H' pr (.lst ((ms.map V.int).set 0 (.int (ms[0] / 2)))) pr = some (.lst ((ms.set 0 (ms[0] / 2)).map V.int)) := by
        rw [upd_same, List.map_set]
      have l1 : (ms.set 0 (ms[0] / 2)).length = ms.length := List.length_set
      generalize ms.set 0 (ms[0] / 2) = ms1 at *
      generalize upd H' pr (.lst ((ms.map V.int).set 0 (.int (ms[0] / 2)))) = H1 at *
      have npd : H pd = none := s1.free hpd
      have nd : pr ≠ pd := ne_of_none g1 hpd
      refine ⟨.int 24, rfl, 24, rfl, by decide, by decide, ?_⟩
      refine for_up (n := 24) (fun i σ H2 => ∃ (y5 y6 y7 : Option V) (ms2 ds : List Int), σ = [some (.ref a), some (.int 24), some (.ref pr), some (.int (ms[0] % 2)), some (.ref pd), y5, y6, y7] ∧ Same H H2 ∧ ms2.length = ms.length ∧ H2 pr = some (.lst (ms2.map V.int)) ∧ ds.length = i ∧ H2 pd = some (.lst (ds.map V.int)))
        ⟨none, none, none, ms1, [], rfl, s1.trans (same_upd hpd), l1, (by rw [upd_ne nd]; exact g1), rfl, upd_same⟩ (fun i σ H2 hi z => ?_) (fun σ H2 z => ?_)
      · obtain ⟨y5, y6, y7, ms2, ds, rfl, s2, l2, g2, ld, gd⟩ := z
        have hat : i % ms2.length < ms2.length := Nat.mod_lt _ (by omega)
        have hat2 : (ms2.map V.int)[i % ms2.length]? = some (.int ms2[i % ms2.length]) := zints_at hat
        refine ⟨vI i, rfl, .ref pr, rfl, pr, ms2.map V.int, rfl, .inl (SqL.of g2), (i : Int), (ms2.length : Int), rfl, ?_, (by show (0 : Int) < (ms2.length : Int); omega), ?_⟩
        · rw [List.length_map]
        refine ⟨.ref pr, rfl, vI (i % ms2.length), rfl, pr, ms2.map V.int, _, _, rfl, rfl, SqL.of g2, atI_nat hat2, _, _, rfl, rfl, (by show (0 : Int) < 1000000; decide), ?_⟩
        refine ⟨fun σ' H3 => ∃ (one : Int) (ms3 : List Int), σ' = [some (.ref a), some (.int 24), some (.ref pr), some (.int (ms[0] % 2)), some (.ref pd), some (vI i), some (vI (i % ms2.length)), some (.int one)] ∧ Same H H3 ∧ ms3.length = ms.length ∧ H3 pr = some (.lst (ms3.map V.int)) ∧ H3 pd = some (.lst (ds.map V.int)), ?_, fun σ' H3 hM => ?_⟩
        · refine ⟨.int (ms[0] % 2), rfl, rfl, _, rfl, ite2 (fun e => ?_) (fun e => ?_)⟩
          · refine ⟨.ref pr, rfl, vI (i % ms2.length), rfl, pr, ms2.map V.int, _, _, rfl, rfl, SqL.of g2, atI_nat hat2, ?_⟩
            refine ⟨vI i, rfl, vI i, rfl, _, _, rfl, rfl, .inl ⟨by omega, by omega⟩, _, _, rfl, rfl, .inr ⟨by omega, by omega⟩, _, _, rfl, rfl, ?_⟩
            refine ⟨vI i, rfl, _, _, rfl, rfl, .inl ⟨by omega, by omega⟩, _, _, rfl, rfl, _, _, rfl, rfl, (by show (0 : Int) < 2147483629; decide), ?_⟩
            refine ⟨_, rfl, (by show 4 ≤ sizeLine; decide), fun p3 hp3 => ?_⟩
            obtain ⟨c, hc1, hc2⟩ := menu [48271, 69621, 39373, 40692] (i : Int) 4 rfl (by decide)
            have bc : 0 ≤ c ∧ c ≤ 100000 := by
              simp only [List.mem_cons, List.not_mem_nil, or_false] at hc1
              omega
            refine ⟨vI i, rfl, _, 4, rfl, rfl, (by show (0 : Int) < 4; decide), p3, _, _, .int c, rfl, rfl, SqL.of upd_same, hc2, _, _, rfl, rfl, .inr ⟨by omega, by omega⟩, _, _, rfl, rfl, _, _, rfl, rfl, (by show (0 : Int) < 2147483647; decide), ?_⟩
            have s3 := s2.trans (same_upd (o := .lst [.int 48271, .int 69621, .int 39373, .int 40692]) hp3)
            have s4 : Same H2 (upd H2 p3 (.lst [.int 48271, .int 69621, .int 39373, .int 40692])) := same_upd hp3
            refine ⟨_, rfl, _, rfl, _, _, rfl, rfl, .inl ⟨?_, ?_⟩, _, _, rfl, rfl, (by show (0 : Int) < 2147483629; decide), ?_⟩
            · show (-(2 ^ 64) : Int) < (_ + 7) % 2147483647
              omega
            · show (_ + 7 : Int) % 2147483647 < 2 ^ 64
              omega
            · exact ⟨_, ms2, rfl, s3, l2, s4 _ _ g2, s4 _ _ gd⟩
          · refine ⟨.ref pr, rfl, vI (i % ms2.length), rfl, pr, ms2.map V.int, _, _, rfl, rfl, SqL.of g2, atI_nat hat2, _, _, rfl, rfl, ⟨by decide, by decide⟩, ?_⟩
            refine ⟨.ref pr, rfl, vI (i % ms2.length), rfl, pr, ms2.map V.int, _, i % ms2.length, rfl, rfl, g2, Evl.ixN_nat (by rw [List.length_map]; exact hat), ?_⟩
            refine ⟨_, ms2.set (i % ms2.length) (ms2[i % ms2.length] / 1000000), rfl, same_mut s2 npr, by rw [List.length_set, l2], ?_, ?_⟩
            · rw [upd_same, List.map_set]
            · rw [upd_ne nd.symm]
              exact gd
        · obtain ⟨one, ms3, rfl, s3, l3, g3, gd3⟩ := hM
          refine ⟨.ref pd, rfl, .inl ⟨rfl, _, SqL.of gd3⟩, .int one, rfl, pd, _, _, rfl, rfl, gd3, ?_, ?_⟩
          · rw [List.length_map]
            exact small1000 (by omega)
          · refine ⟨some (vI i), some (vI (i % ms2.length)), some (.int one), ms3, ds ++ [one], rfl, same_mut s3 npd, l3, ?_, ?_, ?_⟩
            · rw [upd_ne nd]
              exact g3
            · rw [List.length_append, ld]
              rfl
            · rw [upd_same, List.map_append]
              rfl
      · obtain ⟨y5, y6, y7, ms2, ds, rfl, s2, l2, g2, ld, gd⟩ := z
        refine ⟨.ref pd, rfl, .inl ⟨rfl, _, SqL.of gd⟩, pd, _, rfl, rfl, gd, .ref pd, rfl, ?_⟩
        refine q _ pd ds.reverse (same_mut s2 npd) npd ?_ ?_
        · rw [upd_same, List.map_reverse]
        · rw [List.length_reverse, ld]
/-! ### _law_alike -/
def spAl : Sp := fun vs H Q _ => ∃ (a dk : Addr) (cs : List Ch) (ds : List Int), vs = [.ref a, .ref dk] ∧ ChsAt H a cs ∧ a ≠ dk ∧ 1 ≤ cs.length ∧ cs.length ≤ 5 ∧ (∀ x ∈ cs, x.ok) ∧ H dk = some (.lst (ds.map V.int)) ∧ ds ≠ [] ∧
  ∀ H' p cs2 (ds' : List Int), But dk H H' → H p = none → ChsAt H' p cs2 → cs2.length = cs.length → (∀ x ∈ cs2, x.ok) → H' dk = some (.lst (ds'.map V.int)) → ds.length = ds'.length + 1 → Q (.ref p) H'
theorem ok_Al {f : Addr} {fd : FuncData} (D : De K mg "_law_alike" sAl ["_law_chances_here", "_law_deck_here"] f fd) (T : Tx mg) : FnOk P w K mg base CX0 1 f fd ["_law_chances_here", "_law_deck_here"] spAl := by
  refine D.F.ok scAl (fun vs H Q E h => ?_) (fun cdv A outer s H vs Q E hr h => ?_)
  · obtain ⟨a, dk, cs, ds, rfl, _⟩ := h
    rfl
  · obtain ⟨a, dk, cs, ds, rfl, hc, nad, hl1, hl5, ok, hd, hne, q⟩ := h
    refine ⟨_, (pss_cons (ps_set (i := 2) scAl.nd rfl (Or.inl rfl) (pe_bm0 PySem.F.plainAttrs_list PySem.F.slot_list_pop PySem.F.type_list_pop mt_pop (pv 1)))
        (pss_cons (ps_set (i := 3) scAl.nd rfl (Or.inl rfl) (pe_callTy call_list_of (by rfl) T.list boot_list (pa_cons (pv 0) pa_nil)))
        (pss_cons (ps_for PassesOwn.never rfl (pi_range1 (by rfl) T.range (pa_cons (pe_callB call_len_seq (by rfl) T.len PySem.boot_len (pa_cons (pv 3) pa_nil)) pa_nil)) (pg_name (i := 4) scAl.nd rfl (Or.inl rfl))
          (pss_cons (ps_asg (pe_ix ix_list (pv 3) (pe_op op_mod (pe_op op_fdiv (pv 2) pe_int) (pe_callB call_len_seq (by rfl) T.len PySem.boot_len (pa_cons (pv 3) pa_nil))) (fun _ _ => rfl)) (pg_tup rfl (pgs_cons (pg_name (i := 5) scAl.nd rfl (Or.inl rfl)) (pgs_cons (pg_name (i := 6) scAl.nd rfl (Or.inl rfl)) (pgs_cons (pg_name (i := 7) scAl.nd rfl (Or.inl rfl)) pgs_nil)))))
            (pss_one (ps_if (PW.pt (pw_and (pt_cmpR op_eq (pe_op op_mod (pe_op op_fdiv (pv 2) pe_int) pe_int) pe_int (nomark _)) (pw_and (pt_cmpR op_eq (pe_op op_mod (pv 4) pe_int) pe_int (nomark _)) (pw_and (pt_cmpR op_le (pe_op op_add (pe_op op_mul pe_int (pv 5)) pe_int) pe_int (nomark _)) (pw_and1 (pt_cmpR op_le (pe_op op_add (pe_op op_mul (pv 6) pe_int) pe_int) (pe_op op_add (pe_op op_mul pe_int (pv 5)) pe_int) (nomark _)))))))
            (pss_one (ps_asg (pe_tup (pa_cons (pe_op op_add (pe_op op_mul pe_int (pv 5)) pe_int) (pa_cons (pe_op op_add (pe_op op_mul pe_int (pv 6)) pe_int) (pa_cons (pv 7) pa_nil)))) (pg_sub (pv 3) (pv 4) set_list)))
            pss_nil))))
        (pss_one (ps_ret (pv 3)))))), ?_⟩
    obtain ⟨d, ds2, l2, g2, d2⟩ := pop_ints hne
    refine ⟨.ref dk, rfl, .inl ⟨rfl, _, SqL.of hd⟩, dk, _, .int d, rfl, rfl, hd, g2, ?_⟩
    rw [d2]
    have bt : But dk H (upd H dk (.lst (ds2.map V.int))) := But.upd (But.refl H)
    have hc1 := hc.but bt nad hd
    have hd1 : upd H dk (.lst (ds2.map V.int)) dk = some (.lst (ds2.map V.int)) := upd_same
    have fr : ∀ p, upd H dk (.lst (ds2.map V.int)) p = none → H p = none := fun p hp => by
      by_cases e : p = dk
      · rw [e, hd1] at hp
        cases hp
      · rw [upd_ne e] at hp
        exact hp
    generalize upd H dk (.lst (ds2.map V.int)) = H1 at *
    obtain ⟨ps, hps, hpl, hpc⟩ := id hc1
    refine ⟨.ref a, rfl, a, _, rfl, .inl (SqL.of hps), fun pf hpf => ?_⟩
    have s1 : Same H1 (upd H1 pf (.lst (ps.map V.ref))) := same_upd hpf
    refine ⟨.ref pf, rfl, pf, ps.map V.ref, rfl, .inl (SqL.of upd_same), (cs.length : Int), ?_, by omega, by omega, ?_⟩
    · rw [List.length_map, hpl]
    have ec : ((cs.length : Int)).toNat = cs.length := Int.toNat_natCast _
    refine for_up (n := ((cs.length : Int)).toNat) (fun i σ H2 => ∃ (y4 y5 y6 y7 : Option V) (cs2 : List Ch), σ = [some (.ref a), some (.ref dk), some (.int d), some (.ref pf), y4, y5, y6, y7] ∧ Same H1 H2 ∧ ChsAt H2 pf cs2 ∧ cs2.length = cs.length ∧ ∀ x ∈ cs2, x.ok)
      ⟨none, none, none, none, cs, rfl, s1, ⟨ps, upd_same, hpl, fun i p x u v => s1 _ _ (hpc i p x u v)⟩, rfl, ok⟩ (fun i σ H2 hi z => ?_) (fun σ H2 z => ?_)
    · obtain ⟨y4, y5, y6, y7, cs2, rfl, s2, hc2, hl2, ok2⟩ := z
      rw [ec] at hi
      have z0 := Int.emod_nonneg (d / 15) (show (cs2.length : Int) ≠ 0 by omega)
      have z1 := Int.emod_lt_of_pos (d / 15) (show 0 < (cs2.length : Int) by omega)
      have hj : (d / 15 % (cs2.length : Int)).toNat < cs2.length := by omega
      obtain ⟨vs, p, hv, hvl, hvp, hx⟩ := hc2.get (List.getElem?_eq_getElem hj)
      have okx := ok2 _ (List.getElem_mem hj)
      generalize cs2[(d / 15 % (cs2.length : Int)).toNat] = x at *
      refine ⟨.ref pf, rfl, .int d, rfl, d, 15, rfl, rfl, ⟨by decide, by decide⟩, .ref pf, rfl, pf, vs, rfl, .inl (SqL.of hv), d / 15, (cs2.length : Int), rfl, congrArg (fun n : Nat => V.int (n : Int)) hvl, (by show 0 < (cs2.length : Int); omega), ?_⟩
      refine ⟨pf, vs, _, .ref p, rfl, rfl, SqL.of hv, at_of (j := (d / 15 % (cs2.length : Int)).toNat) (by omega) hvp, p, _, rfl, SqT.of hx, rfl, _, _, rfl, _, _, rfl, _, _, rfl, rfl, ?_⟩
      have next : ∃ (y4 y5 y6 y7 : Option V) (cs2 : List Ch), [some (.ref a), some (.ref dk), some (.int d), some (.ref pf), some (vI i), some (vI x.r), some (vI x.f), some (vI x.c)] = [some (.ref a), some (.ref dk), some (.int d), some (.ref pf), y4, y5, y6, y7] ∧ Same H1 H2 ∧ ChsAt H2 pf cs2 ∧ cs2.length = cs.length ∧ ∀ x ∈ cs2, x.ok :=
        ⟨_, _, _, _, cs2, rfl, s2, hc2, hl2, ok2⟩
      obtain ⟨o1, o2, o3, o4⟩ := okx
      refine ⟨.int d, rfl, d, 5, rfl, rfl, ⟨by decide, by decide⟩, _, 3, rfl, rfl, (by show (0 : Int) < 3; decide), rfl, _, rfl, ite2 (fun c1 => ?_) (fun c1 => iteF next)⟩
      refine ⟨vI i, rfl, _, 2, rfl, rfl, (by show (0 : Int) < 2; decide), rfl, _, rfl, ite2 (fun c2 => ?_) (fun c2 => iteF next)⟩
      refine ⟨vI x.r, rfl, _, _, rfl, rfl, .inl ⟨by omega, by omega⟩, _, _, rfl, rfl, _, _, rfl, rfl, _, rfl, ite2 (fun c3 => ?_) (fun c3 => iteF next)⟩
      refine ⟨vI x.f, rfl, _, _, rfl, rfl, .inr ⟨by omega, by omega⟩, _, _, rfl, rfl, vI x.r, rfl, _, _, rfl, rfl, .inl ⟨by omega, by omega⟩, _, _, rfl, rfl, _, _, rfl, rfl, _, rfl, ite2 (fun c4 => ?_) (fun c4 => next)⟩
      have d3 : 2 * x.r + 2 ≤ 1000 := by
        have := of_decide_eq_true c3
        omega
      have d4 : x.f * 2 + 1 ≤ 2 * x.r + 2 := by
        have := of_decide_eq_true c4
        omega
      refine ⟨vI x.r, rfl, _, _, rfl, rfl, .inl ⟨by omega, by omega⟩, _, _, rfl, rfl, vI x.f, rfl, _, _, rfl, rfl, .inl ⟨by omega, by omega⟩, _, _, rfl, rfl, vI x.c, rfl, (by show 3 ≤ sizeLine; decide), fun t ht => ?_⟩
      have s3 : Same H2 (upd H2 t (.tup [vI (2 * x.r + 2), vI (2 * x.f + 1), vI x.c])) := same_upd ht
      have hx3 : ChAt (upd H2 t (.tup [vI (2 * x.r + 2), vI (2 * x.f + 1), vI x.c])) t ⟨2 * x.r + 2, 2 * x.f + 1, x.c⟩ := upd_same
      obtain ⟨vs3, e1, e2, e3⟩ := (hc2.same s3).put hx3 (k := i) (by omega)
      refine ⟨.ref pf, rfl, vI i, rfl, pf, vs3, _, i, rfl, rfl, e1, Evl.ixN_nat (by omega), ?_⟩
      refine ⟨some (vI i), some (vI x.r), some (vI x.f), some (vI x.c), cs2.set i ⟨2 * x.r + 2, 2 * x.f + 1, x.c⟩, rfl, same_mut (s2.trans s3) hpf, e3, by rw [List.length_set, hl2], mem_set_ok ok2 ⟨d3, ?_, o3, o4⟩⟩
      show 2 * x.f + 1 ≤ 2 * x.r + 2
      omega
    · obtain ⟨y4, y5, y6, y7, cs2, rfl, s2, hc2, hl2, ok2⟩ := z
      exact ⟨.ref pf, rfl, q H2 pf cs2 ds2 (bt.trans (But.of s2)) (fr pf hpf) hc2 hl2 ok2 (s2 _ _ hd1) l2⟩
end
end K51
namespace K51
open PySem PySem.Spec PyProof.Rows L2
/-! ### the law's sums -/
def smO (cs : List Ch) (o : List Nat) : Nat × Nat := low (EE (pick cs o)) (NN cs)
def SmAt (H : Hp) (a : Addr) (zs : List (Nat × Nat)) : Prop := ∃ ps : List Addr, H a = some (.lst (ps.map V.ref)) ∧ ps.length = zs.length ∧ ∀ (i : Nat) p z, ps[i]? = some p → zs[i]? = some z → H p = some (.tup (vP z))
theorem SmAt.same {H H' : Hp} {a : Addr} {zs : List (Nat × Nat)} (s : Same H H') (h : SmAt H a zs) : SmAt H' a zs := by
  obtain ⟨ps, h1, h2, h3⟩ := h
  exact ⟨ps, s _ _ h1, h2, fun i p z x y => s _ _ (h3 i p z x y)⟩
theorem SmAt.nil {H : Hp} {a : Addr} (h : H a = some (.lst [])) : SmAt H a [] := ⟨[], h, rfl, fun i p x a b => by cases b⟩
theorem SmAt.snoc {H : Hp} {a p : Addr} {zs : List (Nat × Nat)} {z : Nat × Nat} (h : SmAt H a zs) (hx : H p = some (.tup (vP z))) : ∃ vs : List V, H a = some (.lst vs) ∧ vs.length = zs.length ∧ SmAt (upd H a (.lst (vs ++ [.ref p]))) a (zs ++ [z]) := by
  obtain ⟨ps, h1, h2, h3⟩ := h
  refine ⟨ps.map V.ref, h1, by rw [List.length_map, h2], ps ++ [p], ?_, ?_, fun i q y hq hy => ?_⟩
  · rw [upd_same, List.map_append]
    rfl
  · rw [List.length_append, List.length_append, h2]
    rfl
  · by_cases hi : i < ps.length
    · rw [List.getElem?_append_left hi] at hq
      rw [List.getElem?_append_left (by omega)] at hy
      have k := h3 i q y hq hy
      rw [upd_ne (ne_of k h1 (fun z => nomatch z))]
      exact k
    · have hl := (List.getElem?_eq_some_iff.mp hq).1
      rw [List.length_append, List.length_singleton] at hl
      have e : i = ps.length := by omega
      subst e
      rw [List.getElem?_append_right (Nat.le_refl _), Nat.sub_self] at hq
      rw [h2, List.getElem?_append_right (Nat.le_refl _), Nat.sub_self] at hy
      cases hq
      cases hy
      rw [upd_ne (ne_of hx h1 (fun z => nomatch z))]
      exact hx
theorem SmAt.get {H : Hp} {a : Addr} {zs : List (Nat × Nat)} (h : SmAt H a zs) {i : Nat} {z : Nat × Nat} (hi : zs[i]? = some z) : ∃ (vs : List V) (p : Addr), H a = some (.lst vs) ∧ vs.length = zs.length ∧ vs[i]? = some (.ref p) ∧ H p = some (.tup (vP z)) := by
  obtain ⟨ps, h1, h2, h3⟩ := h
  have hl : i < ps.length := by
    rw [h2]
    exact (List.getElem?_eq_some_iff.mp hi).1
  refine ⟨ps.map V.ref, ps[i], h1, by rw [List.length_map, h2], ?_, h3 i _ z (List.getElem?_eq_getElem hl) hi⟩
  rw [List.getElem?_map, List.getElem?_eq_getElem hl]
  rfl
theorem SmAt.but {H H' : Hp} {a d : Addr} {zs : List (Nat × Nat)} {vs : List V} (s : But d H H') (h : SmAt H a zs) (n : a ≠ d) (e : H d = some (.lst vs)) : SmAt H' a zs := by
  obtain ⟨ps, h1, h2, h3⟩ := h
  exact ⟨ps, s _ _ h1 n, h2, fun i p z x y => s _ _ (h3 i p z x y) (ne_of (h3 i p z x y) e (fun z => nomatch z))⟩
/-- the orders stand though a longer list changes -/
theorem LsAt.but {H H' : Hp} {a d : Addr} {os : List (List Nat)} {vs : List V} (s : But d H H') (h : LsAt H a os) (n : a ≠ d) (e : H d = some (.lst vs)) (hl : ∀ o ∈ os, o.length < vs.length) : LsAt H' a os := by
  obtain ⟨ps, h1, h2, h3⟩ := h
  refine ⟨ps, s _ _ h1 n, h2, fun i p o x y => ⟨(h3 i p o x y).1, s _ _ (h3 i p o x y).2 fun z => ?_⟩⟩
  have k := (h3 i p o x y).2
  rw [z, e] at k
  have k2 : vs = o.map vI := HO.lst.inj (Option.some.inj k)
  have k3 := hl o (List.mem_of_getElem? y)
  rw [k2, List.length_map] at k3
  omega
/-- a tuple of two numbers as data -/
def prD (z : Nat × Nat) : PyData := .tuple [.int (z.1 : Int), .int (z.2 : Int)]
theorem prD_shaped (z : Nat × Nat) : SeqAt.shaped (prD z) = true := by
  simp [prD, SeqAt.shaped, PyData.canLay0, PyData.canLayAll0, PyData.depth, PyData.depthAll]
theorem dp_pr {K : PySem.W.Frag} {H : Hp} {p : Addr} {z : Nat × Nat} (h : H p = some (.tup (vP z))) : Dp K H (.ref p) (prD z) := .tup (SqT.of h) (.cons (.int _) (.cons (.int _) .nil))
theorem eqv_pr (y z : Nat × Nat) : PyData.eqv (prD y) (prD z) = true ↔ y = z := by
  obtain ⟨a, b⟩ := y
  obtain ⟨c, d⟩ := z
  simp [prD, PyData.eqv, PyData.eqvAll]
  omega
theorem sm_lt (cs : List Ch) (oi oj : List Nat) : decide (((smO cs oi).1 : Int) * ((smO cs oj).2 : Int) < ((smO cs oj).1 : Int) * ((smO cs oi).2 : Int)) = true ↔ EE (pick cs oi) < EE (pick cs oj) := by
  rw [decide_eq_true_iff, ← Int.natCast_mul, ← Int.natCast_mul, Int.ofNat_lt]
  exact low_lt (NN_pos cs)
theorem sm_small {cs : List Ch} (ok : ∀ x ∈ cs, x.ok) (h : cs.length ≤ 5) (o : List Nat) : (-(2 ^ 64) : Int) < ((smO cs o).2 : Int) ∧ ((smO cs o).2 : Int) < 2 ^ 64 := by
  have h1 : (smO cs o).2 ≤ NN cs := low_le2
  have h2 := NN_five ok h
  have h3 : (1002 ^ 5 : Nat) < 2 ^ 64 := by decide
  omega
theorem allO_most : ∀ k : Nat, k ≤ 5 → (allO k).length ≤ 120
  | 0, _ => by decide +kernel
  | 1, _ => by decide +kernel
  | 2, _ => by decide +kernel
  | 3, _ => by decide +kernel
  | 4, _ => by decide +kernel
  | 5, _ => by decide +kernel
  | k + 6, h => absurd h (by omega)
/-- what is_best_order says, by the sums -/
theorem best_tells {cs : List Ch} (ok : ∀ x ∈ cs, x.ok) {o oj : List Nat} (ho : o ∈ allO cs.length) (hj : oj ∈ allO cs.length) (least : ∀ o2 ∈ allO cs.length, EE (pick cs oj) ≤ EE (pick cs o2)) {t : Bool} (ht : t = true ↔ Falls (pick cs o)) {b : Bool} (hb : b = true ↔ smO cs o = smO cs oj) : (t == b) = true := by
  have h1 : t = true ↔ b = true := by
    rw [ht, falls_is_least ok ho, hb]
    constructor
    · intro h
      have e : EE (pick cs o) = EE (pick cs oj) := Nat.le_antisymm (h oj hj) (least o ho)
      unfold smO
      rw [e]
    · intro h o2 h2
      have e : EE (pick cs o) = EE (pick cs oj) := low_inj (NN_pos cs) h
      rw [e]
      exact least o2 h2
  cases t <;> cases b <;> simp_all
section
variable {P : Program} {w : World} {K : PySem.W.Frag} {mg : Str → Option Value} {base : Heap}
/-! ### the law -/
def spLa (K : PySem.W.Frag) : Sp := fun vs H Q _ => ∃ (a : Addr) (ns : List Int), vs = [.ref a] ∧ SqL K H a (ns.map V.int) ∧ ns.length ≤ 63 ∧ ∀ H', Q (.bl true) H'
theorem ok_La {f f1 f2 f3 f4 f5 f6 f7 f8 f9 : Addr} {fd fd1 fd2 fd3 fd4 fd5 fd6 fd7 fd8 fd9 : FuncData} (D : De K mg "law" sLa ["_law_script"] f fd) (T : Tx mg)
    (DDk : De K mg "_law_deck" sDk ["_law_script", "_law_many"] f1 fd1) (GDk : FnOk P w K mg base CX0 1 f1 fd1 ["_law_script", "_law_many"] (spDk K))
    (DLs : De K mg "_law_chances" sLs ["_law_deck_here", "_law_many"] f2 fd2) (GLs : FnOk P w K mg base CX0 2 f2 fd2 ["_law_deck_here", "_law_many"] spLs)
    (DAl : De K mg "_law_alike" sAl ["_law_chances_here", "_law_deck_here"] f3 fd3) (GAl : FnOk P w K mg base CX0 1 f3 fd3 ["_law_chances_here", "_law_deck_here"] spAl)
    (DAo : De K mg "_law_all_orders" sAo ["_law_many"] f4 fd4) (GAo : FnOk P w K mg base CX0 1 f4 fd4 ["_law_many"] spAo)
    (DSp : De K mg "_law_spent" sSp ["_law_chances_here", "_law_order_here"] f5 fd5) (GSp : FnOk P w K mg base CX0 2 f5 fd5 ["_law_chances_here", "_law_order_here"] spSp)
    (DTr : De K mg "_law_truth" sTr ["_law_found", "_law_due"] f6 fd6) (GTr : FnOk P w K mg base CX0 1 f6 fd6 ["_law_found", "_law_due"] spTr)
    (DIb : De K mg "is_best_order" sIb ["chances", "order"] f7 fd7) (GIb : FnOk P w K mg base CX0 4 f7 fd7 ["chances", "order"] spIb)
    (DBo : De K mg "best_order" sBo ["chances"] f8 fd8) (GBo : FnOk P w K mg base CX0 4 f8 fd8 ["chances"] spBo)
    (DEx : De K mg "expected" sEx ["chances", "order"] f9 fd9) (GEx : FnOk P w K mg base CX0 4 f9 fd9 ["chances", "order"] spEx) : FnOk P w K mg base CX0 5 f fd ["_law_script"] (spLa K) := by
  refine D.F.ok scLa (fun vs H Q E h => ?_) (fun cdv A outer s H vs Q E hr h => ?_)
  · obtain ⟨a, ns, rfl, _⟩ := h
    rfl
  · obtain ⟨a, ns, rfl, hS, hlen, q⟩ := h
    refine ⟨_, (pss_cons (ps_set (i := 1) scLa.nd rfl (Or.inl rfl) (pe_call GDk (hr.mono (by decide)) (by rfl) DDk.g DDk.F.kp DDk.b .nil pass0 (pa_cons (pv 0) (pa_cons pe_int pa_nil))))
        (pss_cons (ps_set (i := 2) scLa.nd rfl (Or.inl rfl) (pe_bm0 PySem.F.plainAttrs_list PySem.F.slot_list_pop PySem.F.type_list_pop mt_pop (pv 1)))
        (pss_cons (ps_set (i := 3) scLa.nd rfl (Or.inr rfl) (pe_call GAl (hr.mono (by decide)) (by rfl) DAl.g DAl.F.kp DAl.b .nil pass0 (pa_cons (pe_call GLs (hr.mono (by decide)) (by rfl) DLs.g DLs.F.kp DLs.b .nil pass0 (pa_cons (pv 1) (pa_cons (pe_op op_add pe_int (pe_op op_mod (pv 2) pe_int)) pa_nil))) (pa_cons (pv 1) pa_nil))))
        (pss_cons (ps_set (i := 4) scLa.nd rfl (Or.inl rfl) (pe_call GAo (hr.mono (by decide)) (by rfl) DAo.g DAo.F.kp DAo.b .nil pass0 (pa_cons (pe_callB call_len_seq (by rfl) T.len PySem.boot_len (pa_cons (pv 3) pa_nil)) pa_nil)))
        (pss_cons (ps_setLc (i := 5) (own := [("_law_order_here", 11)]) (g := gName 11) (tt := tYes) (by rfl) scLa.nd rfl rfl (sw_true rfl rfl rfl (by decide +kernel)) (pi_list (pv 4))
          (blkOk_by (N := ["_law_script", "_law_deck_here", "_law_draw", "_law_chances_here", "_law_orders", "_law_sums", "_law_least", "_law_one", "_law_k", "_law_at", "_law_best", "_law_order_here"]) (sc := defScope sLa) (by decide +kernel)) (fun _ _ _ _ _ => pg_name (i := 11) scLa.nd rfl (Or.inl rfl)) (fun _ _ _ _ _ => pts_nil)
          (fun _ _ _ _ _ => (pe_call GSp (hr.mono (by decide)) (by rfl) DSp.g DSp.F.kp DSp.b .nil pass0 (pa_cons (pv 3) (pa_cons (pv 11) pa_nil)))))
        (pss_cons (ps_set (i := 6) scLa.nd rfl (Or.inl rfl) (pe_ix ix_list (pv 5) pe_int (fun _ _ => rfl)))
        (pss_cons (ps_for PassesOwn.never rfl (pi_list (pv 5)) (pg_name (i := 7) scLa.nd rfl (Or.inl rfl))
          (pss_one (ps_if (pt_cmpR op_lt (pe_op op_mul (pe_ix ix_tup (pv 7) pe_int (fun _ _ => rfl)) (pe_ix ix_tup (pv 6) pe_int (fun _ _ => rfl))) (pe_op op_mul (pe_ix ix_tup (pv 6) pe_int (fun _ _ => rfl)) (pe_ix ix_tup (pv 7) pe_int (fun _ _ => rfl))) (nomark _))
            (pss_one (ps_set (i := 6) scLa.nd rfl (Or.inl rfl) (pv 7)))
            pss_nil)))
        (pss_cons (ps_for PassesOwn.never rfl (pi_range1 (by rfl) T.range (pa_cons (pe_callB call_len_seq (by rfl) T.len PySem.boot_len (pa_cons (pv 4) pa_nil)) pa_nil)) (pg_name (i := 8) scLa.nd rfl (Or.inl rfl))
          (pss_one (ps_if (pt_not (pt_val (pe_call GTr (hr.mono (by decide)) (by rfl) DTr.g DTr.F.kp DTr.b .nil pass0 (pa_cons (pe_call GIb (hr.mono (by decide)) (by rfl) DIb.g DIb.F.kp DIb.b .nil pass0 (pa_cons (pv 3) (pa_cons (pe_ix ix_list (pv 4) (pv 8) (fun _ _ => rfl)) pa_nil))) (pa_cons (pe_cmpR (op_eqD hr.units) (pe_ix ix_list (pv 5) (pv 8) (fun _ _ => rfl)) (pv 6) (nomark _)) pa_nil)))))
            (pss_one (ps_ret pe_bl))
            pss_nil)))
        (pss_cons (ps_set (i := 9) scLa.nd rfl (Or.inl rfl) (pe_op op_mod (pe_bm0 PySem.F.plainAttrs_list PySem.F.slot_list_pop PySem.F.type_list_pop mt_pop (pv 1)) (pe_callB call_len_seq (by rfl) T.len PySem.boot_len (pa_cons (pv 4) pa_nil))))
        (pss_cons (ps_set (i := 10) scLa.nd rfl (Or.inl rfl) (pe_call GBo (hr.mono (by decide)) (by rfl) DBo.g DBo.F.kp DBo.b .nil pass0 (pa_cons (pv 3) pa_nil)))
        (pss_one (ps_ret (pe_and (pe_cmpR (op_eqD hr.units) (pe_call GEx (hr.mono (by decide)) (by rfl) DEx.g DEx.F.kp DEx.b .nil pass0 (pa_cons (pv 3) (pa_cons (pe_ix ix_list (pv 4) (pv 9) (fun _ _ => rfl)) pa_nil))) (pe_ix ix_list (pv 5) (pv 9) (fun _ _ => rfl)) (nomark _)) (pe_one (pe_cmpR (op_eqD hr.units) (pe_call GEx (hr.mono (by decide)) (by rfl) DEx.g DEx.F.kp DEx.b .nil pass0 (pa_cons (pv 3) (pa_cons (pv 10) pa_nil))) (pv 6) (nomark _)))))))))))))))), ?_⟩
    -- the deck, the draw
    refine ⟨.ref a, rfl, a, ns, rfl, hS, fun H1 dk ds s1 ndk hdk ld => ?_⟩
    have hne : ds ≠ [] := fun z => by
      rw [z] at ld
      cases ld
    obtain ⟨y, ds2, l2, g2, d2⟩ := pop_ints hne
    refine ⟨.ref dk, rfl, .inl ⟨rfl, _, SqL.of hdk⟩, dk, _, .int y, rfl, rfl, hdk, g2, ?_⟩
    rw [d2]
    have hdk2 : upd H1 dk (.lst (ds2.map V.int)) dk = some (.lst (ds2.map V.int)) := upd_same
    generalize upd H1 dk (.lst (ds2.map V.int)) = H2 at *
    -- the chances
    have y0 := Int.emod_nonneg y (show (5 : Int) ≠ 0 by decide)
    have y1 := Int.emod_lt_of_pos y (show (0 : Int) < 5 by decide)
    refine ⟨.ref dk, rfl, .int y, rfl, y, 5, rfl, rfl, (by show (0 : Int) < 5; decide), 1, y % 5, rfl, rfl, ?_⟩
    have ek : (1 : Int) + y % 5 = ((1 + (y % 5).toNat : Nat) : Int) := by omega
    refine ⟨dk, 1 + (y % 5).toNat, ds2, ?_, hdk2, by omega, by omega, fun H3 pa ca ds3 b3 npa hca lca oka hdk3 l3 => ?_⟩
    · show [V.ref dk, V.int (1 + y % 5)] = [V.ref dk, V.int ((1 + (y % 5).toNat : Nat) : Int)]
      rw [ek]
    have nad : pa ≠ dk := (ne_of_none hdk2 npa).symm
    refine ⟨.ref dk, rfl, pa, dk, ca, ds3, rfl, hca, nad, by omega, by omega, oka, hdk3, ?_, fun H4 ac cs ds4 b4 nac hc lc ok hdk4 l4 => ?_⟩
    · intro z
      rw [z] at l3
      simp only [List.length_nil] at l3
      omega
    have ncd : ac ≠ dk := (ne_of_none hdk3 nac).symm
    have hl1 : 1 ≤ cs.length := by omega
    have hl5 : cs.length ≤ 5 := by omega
    have ld4 : 10 < ds4.length := by omega
    -- the orders
    obtain ⟨vs0, hv0, hvl0⟩ := hc.list
    refine ⟨.ref ac, rfl, ac, vs0, rfl, .inl (SqL.of hv0), cs.length, congrArg (fun n : Nat => [vI n]) hvl0, hl5, fun H5 ao s5 nao hL => ?_⟩
    have naod : ao ≠ dk := (ne_of_none hdk4 nao).symm
    obtain ⟨ps, hps, hpl, hpo⟩ := id hL
    have hm := allO_most cs.length hl5
    have hm0 : 0 < (allO cs.length).length := List.length_pos_iff.mpr (allO_ne _)
    -- the sums
    refine ⟨.ref ao, rfl, ao, rfl, ⟨_, SqL.of hps⟩, fun al hal => lc_list (K := K) (a := ao) (xs := ps.map V.ref) (fun i H' => Same H5 H' ∧ SmAt H' al (((allO cs.length).take i).map (smO cs)))
      ⟨same_upd hal, SmAt.nil upd_same⟩ (fun i H' _ z => SqL.of (z.1 _ _ hps)) (fun i x H' hi z => ?_) (fun H6 z => ?_)⟩
    · obtain ⟨s6, hS6⟩ := z
      rw [List.getElem?_map, Option.map_eq_some_iff] at hi
      obtain ⟨p, hip, rfl⟩ := hi
      have hil : i < (allO cs.length).length := by
        rw [← hpl]
        exact (List.getElem?_eq_some_iff.mp hip).1
      have hio : (allO cs.length)[i]? = some (allO cs.length)[i] := List.getElem?_eq_getElem hil
      have hmem : (allO cs.length)[i] ∈ allO cs.length := List.getElem_mem hil
      have hpp := (hpo i p _ hip hio).2
      generalize (allO cs.length)[i] = o at *
      refine ⟨rfl, .ref ac, rfl, .ref p, rfl, ac, p, cs, o, rfl, hc.same (s5.trans s6), s6 _ _ hpp, allO_perm hmem, hl5, ok, fun H7 t s7 nt ht => ?_⟩
      obtain ⟨vs, v1, v2, v3⟩ := (hS6.same s7).snoc (z := smO cs o) ht
      refine ⟨vs, v1, ?_, same_mut (s6.trans s7) hal, ?_⟩
      · rw [v2, List.length_map, List.length_take]
        exact small1000 (by omega)
      · rw [List.take_add_one, hio, List.map_append]
        exact v3
    · obtain ⟨s6, hSm⟩ := z
      rw [List.length_map, hpl, List.take_length] at hSm
      have hald : al ≠ dk := (ne_of_none (s5 _ _ hdk4) hal).symm
      obtain ⟨qs, hqs, hql, hqz⟩ := id hSm
      rw [List.length_map] at hql
      have q0 : 0 < qs.length := by omega
      have hq0 : qs[0]? = some qs[0] := List.getElem?_eq_getElem q0
      have ho0 : (allO cs.length)[0]? = some (allO cs.length)[0] := List.getElem?_eq_getElem hm0
      have hz0 : ∀ (i : Nat) o, (allO cs.length)[i]? = some o → ((allO cs.length).map (smO cs))[i]? = some (smO cs o) := fun i o h => by
        rw [List.getElem?_map, h]
        rfl
      have small := sm_small ok hl5
      -- the least
      refine ⟨.ref al, rfl, al, qs.map V.ref, 0, .ref qs[0], rfl, rfl, SqL.of hqs, atI_nat (j := 0) (by rw [List.getElem?_map, hq0]; rfl), ?_⟩
      refine ⟨.ref al, rfl, al, rfl, ⟨_, SqL.of hqs⟩, for_list (K := K) (a := al) (xs := qs.map V.ref) (fun i σ H' => ∃ (l : Addr) (oj : List Nat) (y7 : Option V), σ = [some (.ref a), some (.ref dk), some (.int y), some (.ref ac), some (.ref ao), some (.ref al), some (.ref l), y7, none, none, none, none] ∧ H' = H6 ∧
          oj ∈ allO cs.length ∧ H6 l = some (.tup (vP (smO cs oj))) ∧ ∀ o2 ∈ (allO cs.length).take i, EE (pick cs oj) ≤ EE (pick cs o2))
        ⟨qs[0], (allO cs.length)[0], none, rfl, rfl, List.getElem_mem hm0, hqz 0 _ _ hq0 (hz0 0 _ ho0), fun o2 h2 => nomatch h2⟩ (fun i σ H' _ z => ?_) (fun i x σ H' hi z => ?_) (fun σ H' z => ?_)⟩
      · obtain ⟨_, _, _, _, rfl, _⟩ := z
        exact SqL.of hqs
      · obtain ⟨l, oj, y7, rfl, rfl, hj, hl, hle⟩ := z
        rw [List.getElem?_map, Option.map_eq_some_iff] at hi
        obtain ⟨p, hip, rfl⟩ := hi
        have hil : i < (allO cs.length).length := by
          rw [← hql]
          exact (List.getElem?_eq_some_iff.mp hip).1
        have hio : (allO cs.length)[i]? = some (allO cs.length)[i] := List.getElem?_eq_getElem hil
        have hmem : (allO cs.length)[i] ∈ allO cs.length := List.getElem_mem hil
        generalize (allO cs.length)[i] = oi at *
        have hp := hqz i p _ hip (hz0 i _ hio)
        have key := sm_lt cs oi oj
        have et : (allO cs.length).take (i + 1) = (allO cs.length).take i ++ [oi] := by
          rw [List.take_add_one, hio]
          rfl
        refine ⟨.ref p, rfl, p, _, 0, vI (smO cs oi).1, rfl, rfl, SqT.of hp, atI_nat (j := 0) rfl, .ref l, rfl, l, _, 1, vI (smO cs oj).2, rfl, rfl, SqT.of hl, atI_nat (j := 1) rfl, _, _, rfl, rfl, .inr (small oj), ?_⟩
        refine ⟨.ref l, rfl, l, _, 0, vI (smO cs oj).1, rfl, rfl, SqT.of hl, atI_nat (j := 0) rfl, .ref p, rfl, p, _, 1, vI (smO cs oi).2, rfl, rfl, SqT.of hp, atI_nat (j := 1) rfl, _, _, rfl, rfl, .inr (small oi), _, _, rfl, rfl, _, rfl, ite2 (fun e => ?_) (fun e => ?_)⟩
        · have lt := key.mp e
          refine ⟨.ref p, rfl, p, oi, _, rfl, rfl, hmem, hp, fun o2 h2 => ?_⟩
          rw [et] at h2
          rcases List.mem_append.mp h2 with h2 | h2
          · exact Nat.le_trans (Nat.le_of_lt lt) (hle o2 h2)
          · rw [List.mem_singleton.mp h2]
            exact Nat.le_refl _
        · have ge := Nat.le_of_not_lt fun z => e (key.mpr z)
          refine ⟨l, oj, _, rfl, rfl, hj, hl, fun o2 h2 => ?_⟩
          rw [et] at h2
          rcases List.mem_append.mp h2 with h2 | h2
          · exact hle o2 h2
          · rw [List.mem_singleton.mp h2]
            exact ge
      · obtain ⟨l, oj, y7, rfl, rfl, hj, hl, hle⟩ := z
        rw [List.length_map, hql, List.take_length] at hle
        -- is_best_order of each
        refine ⟨.ref ao, rfl, ao, ps.map V.ref, rfl, .inl (SqL.of (s6 _ _ hps)), ((allO cs.length).length : Int), ?_, by omega, by omega, ?_⟩
        · rw [List.length_map, hpl]
        have ec : (((allO cs.length).length : Int)).toNat = (allO cs.length).length := Int.toNat_natCast _
        refine for_up (n := (((allO cs.length).length : Int)).toNat) (fun i σ H2 => ∃ y8 : Option V, σ = [some (.ref a), some (.ref dk), some (.int y), some (.ref ac), some (.ref ao), some (.ref al), some (.ref l), y7, y8, none, none, none] ∧ Same H' H2)
          ⟨none, rfl, Same.refl _⟩ (fun i σ H7 hi z => ?_) (fun σ H7 z => ?_)
        · obtain ⟨y8, rfl, s7⟩ := z
          rw [ec] at hi
          have hio : (allO cs.length)[i]? = some (allO cs.length)[i] := List.getElem?_eq_getElem hi
          have hmem : (allO cs.length)[i] ∈ allO cs.length := List.getElem_mem hi
          generalize (allO cs.length)[i] = o at *
          obtain ⟨vs, p, hv, hvl, hvp, hpo2⟩ := (hL.same (s6.trans s7)).get hio
          refine ⟨.ref ac, rfl, .ref ao, rfl, vI i, rfl, ao, vs, _, .ref p, rfl, rfl, SqL.of hv, atI_nat hvp, ac, p, cs, o, rfl, (hc.same s5).same (s6.trans s7), hpo2, allO_perm hmem, by omega, ok, fun t H8 ht s8 => ?_⟩
          obtain ⟨us, r, hu, hul, hur, hro⟩ := (hSm.same (s7.trans s8)).get (hz0 i o hio)
          refine ⟨.ref al, rfl, vI i, rfl, al, us, _, .ref r, rfl, rfl, SqL.of hu, atI_nat hur, .ref l, rfl, prD (smO cs o), prD (smO cs oj), dp_pr hro, dp_pr ((s7.trans s8) _ _ hl), prD_shaped _, prD_shaped _, t, _, rfl, true, congrArg V.bl (best_tells ok hmem hj hle ht (eqv_pr _ _)), iteF ?_⟩
          exact ⟨_, rfl, s7.trans s8⟩
        · obtain ⟨y8, rfl, s7⟩ := z
          -- at
          have hdk7 : H7 dk = some (.lst (ds4.map V.int)) := s7 _ _ (s6 _ _ (s5 _ _ hdk4))
          have hne4 : ds4 ≠ [] := fun z => by
            rw [z] at ld4
            exact absurd ld4 (by decide)
          obtain ⟨u, ds5, l5, g5, d5⟩ := pop_ints hne4
          have hL7 := hL.same (s6.trans s7)
          have hS7 := hSm.same s7
          have hc7 := (hc.same s5).same (s6.trans s7)
          have hl7 := s7 _ _ hl
          refine ⟨.ref dk, rfl, .inl ⟨rfl, _, SqL.of hdk7⟩, dk, _, .int u, rfl, rfl, hdk7, g5, ?_⟩
          have b8 : But dk H7 (upd H7 dk (.lst ((ds4.map V.int).dropLast))) := But.upd (But.refl H7)
          have hc8 := hc7.but b8 ncd hdk7
          have hS8 := hS7.but b8 hald hdk7
          have hL8 := hL7.but b8 naod hdk7 fun o ho => by
            rw [allO_len ho, List.length_map]
            omega
          have hl8 := b8 _ _ hl7 (ne_of hl7 hdk7 (fun z => nomatch z))
          generalize upd H7 dk (.lst ((ds4.map V.int).dropLast)) = H8 at *
          obtain ⟨qs8, hq8, hql8, _⟩ := id hL8
          have u0 := Int.emod_nonneg u (show ((allO cs.length).length : Int) ≠ 0 by omega)
          have u1 := Int.emod_lt_of_pos u (show 0 < ((allO cs.length).length : Int) by omega)
          refine ⟨.ref ao, rfl, ao, qs8.map V.ref, rfl, .inl (SqL.of hq8), u, ((allO cs.length).length : Int), rfl, ?_, (by show 0 < ((allO cs.length).length : Int); omega), ?_⟩
          · rw [List.length_map, hql8]
          -- best
          refine ⟨.ref ac, rfl, ac, cs, rfl, hc8, by omega, ok, fun H9 pb ob s9 npb hb hbp hbf => ?_⟩
          have hj9 : (u % ((allO cs.length).length : Int)).toNat < (allO cs.length).length := by omega
          have ej : u % ((allO cs.length).length : Int) = (((u % ((allO cs.length).length : Int)).toNat : Nat) : Int) := by omega
          have hio : (allO cs.length)[(u % ((allO cs.length).length : Int)).toNat]? = some (allO cs.length)[(u % ((allO cs.length).length : Int)).toNat] := List.getElem?_eq_getElem hj9
          have hmem : (allO cs.length)[(u % ((allO cs.length).length : Int)).toNat] ∈ allO cs.length := List.getElem_mem hj9
          generalize (allO cs.length)[(u % ((allO cs.length).length : Int)).toNat] = o at *
          obtain ⟨vs, p, hv, hvl, hvp, hpo2⟩ := (hL8.same s9).get hio
          refine ⟨.ref ac, rfl, .ref ao, rfl, .int (u % ((allO cs.length).length : Int)), rfl, ao, vs, _, .ref p, rfl, rfl, SqL.of hv, at_of ej hvp, ac, p, cs, o, rfl, hc8.same s9, .inl hpo2, allO_perm hmem, hl5, ok, fun H10 r1 s10 hr1 => ?_⟩
          rw [pick_NN (allO_perm hmem)] at hr1
          obtain ⟨us, r, hu, hul, hur, hro⟩ := (hS8.same (s9.trans s10)).get (hz0 _ o hio)
          refine ⟨.ref al, rfl, .int (u % ((allO cs.length).length : Int)), rfl, al, us, _, .ref r, rfl, rfl, SqL.of hu, at_of ej hur, prD (smO cs o), prD (smO cs o), dp_pr hr1, dp_pr hro, prD_shaped _, prD_shaped _, true, congrArg V.bl ((eqv_pr _ _).mpr rfl), iteT ?_⟩
          refine ⟨.ref ac, rfl, .ref pb, rfl, ac, pb, cs, ob, rfl, hc8.same (s9.trans s10), .inr (s10 _ _ hb), hbp, hl5, ok, fun H11 r2 s11 hr2 => ?_⟩
          rw [pick_NN hbp] at hr2
          have eb : smO cs ob = smO cs oj := by
            have h1 := hle ob (allO_all hbp)
            have h2 := (falls_is_least ok (allO_all hbp)).mp hbf oj hj
            unfold smO
            rw [Nat.le_antisymm h2 h1]
          refine ⟨.ref l, rfl, prD (smO cs ob), prD (smO cs oj), dp_pr hr2, dp_pr ((s9.trans (s10.trans s11)) _ _ hl8), prD_shaped _, prD_shaped _, ?_⟩
          rw [(eqv_pr _ _).mpr eb]
          exact q _
end
end K51
namespace K51
open PySem PySem.Spec PyProof.Rows L2
/-! ### the end: what the top has written -/
theorem all_mk {l : PySem.W.OpenLaw} {w : World} {K : PySem.W.Frag} {h : Heap} {mg : Str → Option Value} {fa f1 f2 f3 f4 f5 f6 f7 f8 f9 f10 f11 f12 f13 f14 f15 f16 f17 f18 f19 f20 : Addr} (X : K.In h) (G : h.Ns mainGlobals mg) (hfa : mg "law" = some (.ref fa))
    {od1 an1 od2 an2 od3 an3 od4 an4 od5 an5 od6 an6 od7 an7 od8 an8 od9 an9 od10 an10 od11 an11 od12 an12 od13 an13 od14 an14 od15 an15 od16 an16 od17 an17 od18 an18 od19 an19 od20 an20 : Option Addr} {sl1 sl2 sl3 sl4 sl5 sl6 sl7 sl8 sl9 sl10 sl11 sl12 sl13 sl14 sl15 sl16 sl17 sl18 sl19 sl20 : Array (Option Value)}
    {oc1 kV1 dc1 pm1 cd1 ct1 oc2 kV2 dc2 pm2 cd2 ct2 oc3 kV3 dc3 pm3 cd3 ct3 oc4 kV4 dc4 pm4 cd4 ct4 oc5 kV5 dc5 pm5 cd5 ct5 oc6 kV6 dc6 pm6 cd6 ct6 oc7 kV7 dc7 pm7 cd7 ct7 oc8 kV8 dc8 pm8 cd8 ct8 oc9 kV9 dc9 pm9 cd9 ct9 oc10 kV10 dc10 pm10 cd10 ct10 oc11 kV11 dc11 pm11 cd11 ct11 oc12 kV12 dc12 pm12 cd12 ct12 oc13 kV13 dc13 pm13 cd13 ct13 oc14 kV14 dc14 pm14 cd14 ct14 oc15 kV15 dc15 pm15 cd15 ct15 oc16 kV16 dc16 pm16 cd16 ct16 oc17 kV17 dc17 pm17 cd17 ct17 oc18 kV18 dc18 pm18 cd18 ct18 oc19 kV19 dc19 pm19 cd19 ct19 oc20 kV20 dc20 pm20 cd20 ct20 : Value} {tk1 tk2 tk3 : Tok}
    (a1 : PySem.W.nsIn K mainGlobals "is_whole" = some (some (.ref f1))) (l1 : K.lookup f1 = some ⟨oc1, od1, .func (PySem.W.fnOf "is_whole" "is_whole" (defArgs sWh) (defBody sWh) (defScope sWh) .none kV1 dc1 pm1 an1 cd1 ct1), sl1⟩) (c1 : PySem.W.codeIn K cd1 "is_whole" = true) (k1 : PySem.W.keepIn K (.ref f1) = true)
    (a2 : PySem.W.nsIn K mainGlobals "is_row" = some (some (.ref f2))) (l2 : K.lookup f2 = some ⟨oc2, od2, .func (PySem.W.fnOf "is_row" "is_row" (defArgs sRw) (defBody sRw) (defScope sRw) .none kV2 dc2 pm2 an2 cd2 ct2), sl2⟩) (c2 : PySem.W.codeIn K cd2 "is_row" = true) (k2 : PySem.W.keepIn K (.ref f2) = true)
    (a3 : PySem.W.nsIn K mainGlobals "is_chance" = some (some (.ref f3))) (l3 : K.lookup f3 = some ⟨oc3, od3, .func (PySem.W.fnOf "is_chance" "is_chance" (defArgs sIc) (defBody sIc) (defScope sIc) .none kV3 dc3 pm3 an3 cd3 ct3), sl3⟩) (c3 : PySem.W.codeIn K cd3 "is_chance" = true) (k3 : PySem.W.keepIn K (.ref f3) = true)
    (a4 : PySem.W.nsIn K mainGlobals "ask_chances" = some (some (.ref f4))) (l4 : K.lookup f4 = some ⟨oc4, od4, .func (PySem.W.fnOf "ask_chances" "ask_chances" (defArgs sAk) (defBody sAk) (defScope sAk) .none kV4 dc4 pm4 an4 cd4 ct4), sl4⟩) (c4 : PySem.W.codeIn K cd4 "ask_chances" = true) (k4 : PySem.W.keepIn K (.ref f4) = true)
    (a5 : PySem.W.nsIn K mainGlobals "is_order" = some (some (.ref f5))) (l5 : K.lookup f5 = some ⟨oc5, od5, .func (PySem.W.fnOf "is_order" "is_order" (defArgs sIo) (defBody sIo) (defScope sIo) .none kV5 dc5 pm5 an5 cd5 ct5), sl5⟩) (c5 : PySem.W.codeIn K cd5 "is_order" = true) (k5 : PySem.W.keepIn K (.ref f5) = true)
    (a6 : PySem.W.nsIn K mainGlobals "common" = some (some (.ref f6))) (l6 : K.lookup f6 = some ⟨oc6, od6, .func (PySem.W.fnOf "common" "common" (defArgs sCm) (defBody sCm) (defScope sCm) .none kV6 dc6 pm6 an6 cd6 ct6), sl6⟩) (c6 : PySem.W.codeIn K cd6 "common" = true) (k6 : PySem.W.keepIn K (.ref f6) = true)
    (a7 : PySem.W.nsIn K mainGlobals "lowest" = some (some (.ref f7))) (l7 : K.lookup f7 = some ⟨oc7, od7, .func (PySem.W.fnOf "lowest" "lowest" (defArgs sLw) (defBody sLw) (defScope sLw) .none kV7 dc7 pm7 an7 cd7 ct7), sl7⟩) (c7 : PySem.W.codeIn K cd7 "lowest" = true) (k7 : PySem.W.keepIn K (.ref f7) = true)
    (a8 : PySem.W.nsIn K mainGlobals "expected" = some (some (.ref f8))) (l8 : K.lookup f8 = some ⟨oc8, od8, .func (PySem.W.fnOf "expected" "expected" (defArgs sEx) (defBody sEx) (defScope sEx) .none kV8 dc8 pm8 an8 cd8 ct8), sl8⟩) (c8 : PySem.W.codeIn K cd8 "expected" = true) (k8 : PySem.W.keepIn K (.ref f8) = true)
    (a9 : PySem.W.nsIn K mainGlobals "is_above" = some (some (.ref f9))) (l9 : K.lookup f9 = some ⟨oc9, od9, .func (PySem.W.fnOf "is_above" "is_above" (defArgs sAb) (defBody sAb) (defScope sAb) .none kV9 dc9 pm9 an9 cd9 ct9), sl9⟩) (c9 : PySem.W.codeIn K cd9 "is_above" = true) (k9 : PySem.W.keepIn K (.ref f9) = true)
    (a10 : PySem.W.nsIn K mainGlobals "is_best_order" = some (some (.ref f10))) (l10 : K.lookup f10 = some ⟨oc10, od10, .func (PySem.W.fnOf "is_best_order" "is_best_order" (defArgs sIb) (defBody sIb) (defScope sIb) .none kV10 dc10 pm10 an10 cd10 ct10), sl10⟩) (c10 : PySem.W.codeIn K cd10 "is_best_order" = true) (k10 : PySem.W.keepIn K (.ref f10) = true)
    (a11 : PySem.W.nsIn K mainGlobals "best_order" = some (some (.ref f11))) (l11 : K.lookup f11 = some ⟨oc11, od11, .func (PySem.W.fnOf "best_order" "best_order" (defArgs sBo) (defBody sBo) (defScope sBo) .none kV11 dc11 pm11 an11 cd11 ct11), sl11⟩) (c11 : PySem.W.codeIn K cd11 "best_order" = true) (k11 : PySem.W.keepIn K (.ref f11) = true)
    (a12 : PySem.W.nsIn K mainGlobals "_law_deck" = some (some (.ref f12))) (l12 : K.lookup f12 = some ⟨oc12, od12, .func (PySem.W.fnOf "_law_deck" "_law_deck" (defArgs sDk) (defBody sDk) (defScope sDk) .none kV12 dc12 pm12 an12 cd12 ct12), sl12⟩) (c12 : PySem.W.codeIn K cd12 "_law_deck" = true) (k12 : PySem.W.keepIn K (.ref f12) = true)
    (a13 : PySem.W.nsIn K mainGlobals "_law_chance" = some (some (.ref f13))) (l13 : K.lookup f13 = some ⟨oc13, od13, .func (PySem.W.fnOf "_law_chance" "_law_chance" (defArgs sLc) (defBody sLc) (defScope sLc) .none kV13 dc13 pm13 an13 cd13 ct13), sl13⟩) (c13 : PySem.W.codeIn K cd13 "_law_chance" = true) (k13 : PySem.W.keepIn K (.ref f13) = true)
    (a14 : PySem.W.nsIn K mainGlobals "_law_chances" = some (some (.ref f14))) (l14 : K.lookup f14 = some ⟨oc14, od14, .func (PySem.W.fnOf "_law_chances" "_law_chances" (defArgs sLs) (defBody sLs) (defScope sLs) .none kV14 dc14 pm14 an14 cd14 ct14), sl14⟩) (c14 : PySem.W.codeIn K cd14 "_law_chances" = true) (k14 : PySem.W.keepIn K (.ref f14) = true)
    (a15 : PySem.W.nsIn K mainGlobals "_law_truth" = some (some (.ref f15))) (l15 : K.lookup f15 = some ⟨oc15, od15, .func (PySem.W.fnOf "_law_truth" "_law_truth" (defArgs sTr) (defBody sTr) (defScope sTr) .none kV15 dc15 pm15 an15 cd15 ct15), sl15⟩) (c15 : PySem.W.codeIn K cd15 "_law_truth" = true) (k15 : PySem.W.keepIn K (.ref f15) = true)
    (a16 : PySem.W.nsIn K mainGlobals "_law_divisor" = some (some (.ref f16))) (l16 : K.lookup f16 = some ⟨oc16, od16, .func (PySem.W.fnOf "_law_divisor" "_law_divisor" (defArgs sDv) (defBody sDv) (defScope sDv) .none kV16 dc16 pm16 an16 cd16 ct16), sl16⟩) (c16 : PySem.W.codeIn K cd16 "_law_divisor" = true) (k16 : PySem.W.keepIn K (.ref f16) = true)
    (a17 : PySem.W.nsIn K mainGlobals "_law_spent" = some (some (.ref f17))) (l17 : K.lookup f17 = some ⟨oc17, od17, .func (PySem.W.fnOf "_law_spent" "_law_spent" (defArgs sSp) (defBody sSp) (defScope sSp) .none kV17 dc17 pm17 an17 cd17 ct17), sl17⟩) (c17 : PySem.W.codeIn K cd17 "_law_spent" = true) (k17 : PySem.W.keepIn K (.ref f17) = true)
    (a18 : PySem.W.nsIn K mainGlobals "_law_all_orders" = some (some (.ref f18))) (l18 : K.lookup f18 = some ⟨oc18, od18, .func (PySem.W.fnOf "_law_all_orders" "_law_all_orders" (defArgs sAo) (defBody sAo) (defScope sAo) .none kV18 dc18 pm18 an18 cd18 ct18), sl18⟩) (c18 : PySem.W.codeIn K cd18 "_law_all_orders" = true) (k18 : PySem.W.keepIn K (.ref f18) = true)
    (a19 : PySem.W.nsIn K mainGlobals "_law_alike" = some (some (.ref f19))) (l19 : K.lookup f19 = some ⟨oc19, od19, .func (PySem.W.fnOf "_law_alike" "_law_alike" (defArgs sAl) (defBody sAl) (defScope sAl) .none kV19 dc19 pm19 an19 cd19 ct19), sl19⟩) (c19 : PySem.W.codeIn K cd19 "_law_alike" = true) (k19 : PySem.W.keepIn K (.ref f19) = true)
    (a20 : PySem.W.nsIn K mainGlobals "law" = some (some (.ref f20))) (l20 : K.lookup f20 = some ⟨oc20, od20, .func (PySem.W.fnOf "law" "law" (defArgs sLa) (defBody sLa) (defScope sLa) .none kV20 dc20 pm20 an20 cd20 ct20), sl20⟩) (c20 : PySem.W.codeIn K cd20 "law" = true) (k20 : PySem.W.keepIn K (.ref f20) = true)
    (z1 : PySem.W.nsIn K mainGlobals "isinstance" = some none) (z2 : PySem.W.nsIn K mainGlobals "int" = some none) (z3 : PySem.W.nsIn K mainGlobals "bool" = some none) (z4 : PySem.W.nsIn K mainGlobals "list" = some none) (z5 : PySem.W.nsIn K mainGlobals "tuple" = some none) (z6 : PySem.W.nsIn K mainGlobals "len" = some none) (z7 : PySem.W.nsIn K mainGlobals "range" = some none)
    (m1 : PySem.W.nsIn K mainGlobals "MOST_CHANCES" = some (some (.int 40 tk1))) (m2 : PySem.W.nsIn K mainGlobals "MOST_RUNS" = some (some (.int 1000 tk2))) (m3 : PySem.W.nsIn K mainGlobals "MOST_COST" = some (some (.int 100000 tk3))) :
    ∃ fd : FuncData, (∀ (s : Shared) (v : Value), BindsTo s fd ⟨[v], []⟩ [("_law_script", v)]) ∧ ∀ base : Heap, K.In base → base.Ns mainGlobals mg → FnOk l.prog w K mg base CX0 5 fa fd ["_law_script"] (spLa K) := by
  have e := hfa.symm.trans (PySem.W.mg_of X G a20)
  cases e
  have T : Tx mg := ⟨PySem.W.mg_none_of X G z1, PySem.W.mg_none_of X G z2, PySem.W.mg_none_of X G z3, PySem.W.mg_none_of X G z4, PySem.W.mg_none_of X G z5, PySem.W.mg_none_of X G z6, PySem.W.mg_none_of X G z7, ⟨_, PySem.W.mg_of X G m1⟩, ⟨_, PySem.W.mg_of X G m2⟩, ⟨_, PySem.W.mg_of X G m3⟩⟩
  have F1 := fun_mk (st := sWh) l1 c1 k1
  have DWh : De K mg "is_whole" sWh ["thing", "least", "most"] f1 _ := ⟨F1, PySem.W.mg_of X G a1, F1.binds (ps := ["thing", "least", "most"]) fun _ _ _ _ _ _ us hl => match us, hl with | [_, _, _], _ => rfl⟩
  have F2 := fun_mk (st := sRw) l2 c2 k2
  have DRw : De K mg "is_row" sRw ["thing"] f2 _ := ⟨F2, PySem.W.mg_of X G a2, F2.binds (ps := ["thing"]) fun _ _ _ _ _ _ us hl => match us, hl with | [_], _ => rfl⟩
  have F3 := fun_mk (st := sIc) l3 c3 k3
  have DIc : De K mg "is_chance" sIc ["thing"] f3 _ := ⟨F3, PySem.W.mg_of X G a3, F3.binds (ps := ["thing"]) fun _ _ _ _ _ _ us hl => match us, hl with | [_], _ => rfl⟩
  have F4 := fun_mk (st := sAk) l4 c4 k4
  have DAk : De K mg "ask_chances" sAk ["chances"] f4 _ := ⟨F4, PySem.W.mg_of X G a4, F4.binds (ps := ["chances"]) fun _ _ _ _ _ _ us hl => match us, hl with | [_], _ => rfl⟩
  have F5 := fun_mk (st := sIo) l5 c5 k5
  have DIo : De K mg "is_order" sIo ["thing", "many"] f5 _ := ⟨F5, PySem.W.mg_of X G a5, F5.binds (ps := ["thing", "many"]) fun _ _ _ _ _ _ us hl => match us, hl with | [_, _], _ => rfl⟩
  have F6 := fun_mk (st := sCm) l6 c6 k6
  have DCm : De K mg "common" sCm ["one", "other"] f6 _ := ⟨F6, PySem.W.mg_of X G a6, F6.binds (ps := ["one", "other"]) fun _ _ _ _ _ _ us hl => match us, hl with | [_, _], _ => rfl⟩
  have F7 := fun_mk (st := sLw) l7 c7 k7
  have DLw : De K mg "lowest" sLw ["above", "below"] f7 _ := ⟨F7, PySem.W.mg_of X G a7, F7.binds (ps := ["above", "below"]) fun _ _ _ _ _ _ us hl => match us, hl with | [_, _], _ => rfl⟩
  have F8 := fun_mk (st := sEx) l8 c8 k8
  have DEx : De K mg "expected" sEx ["chances", "order"] f8 _ := ⟨F8, PySem.W.mg_of X G a8, F8.binds (ps := ["chances", "order"]) fun _ _ _ _ _ _ us hl => match us, hl with | [_, _], _ => rfl⟩
  have F9 := fun_mk (st := sAb) l9 c9 k9
  have DAb : De K mg "is_above" sAb ["one", "other"] f9 _ := ⟨F9, PySem.W.mg_of X G a9, F9.binds (ps := ["one", "other"]) fun _ _ _ _ _ _ us hl => match us, hl with | [_, _], _ => rfl⟩
  have F10 := fun_mk (st := sIb) l10 c10 k10
  have DIb : De K mg "is_best_order" sIb ["chances", "order"] f10 _ := ⟨F10, PySem.W.mg_of X G a10, F10.binds (ps := ["chances", "order"]) fun _ _ _ _ _ _ us hl => match us, hl with | [_, _], _ => rfl⟩
  have F11 := fun_mk (st := sBo) l11 c11 k11
  have DBo : De K mg "best_order" sBo ["chances"] f11 _ := ⟨F11, PySem.W.mg_of X G a11, F11.binds (ps := ["chances"]) fun _ _ _ _ _ _ us hl => match us, hl with | [_], _ => rfl⟩
  have F12 := fun_mk (st := sDk) l12 c12 k12
  have DDk : De K mg "_law_deck" sDk ["_law_script", "_law_many"] f12 _ := ⟨F12, PySem.W.mg_of X G a12, F12.binds (ps := ["_law_script", "_law_many"]) fun _ _ _ _ _ _ us hl => match us, hl with | [_, _], _ => rfl⟩
  have F13 := fun_mk (st := sLc) l13 c13 k13
  have DLc : De K mg "_law_chance" sLc ["_law_draw", "_law_more"] f13 _ := ⟨F13, PySem.W.mg_of X G a13, F13.binds (ps := ["_law_draw", "_law_more"]) fun _ _ _ _ _ _ us hl => match us, hl with | [_, _], _ => rfl⟩
  have F14 := fun_mk (st := sLs) l14 c14 k14
  have DLs : De K mg "_law_chances" sLs ["_law_deck_here", "_law_many"] f14 _ := ⟨F14, PySem.W.mg_of X G a14, F14.binds (ps := ["_law_deck_here", "_law_many"]) fun _ _ _ _ _ _ us hl => match us, hl with | [_, _], _ => rfl⟩
  have F15 := fun_mk (st := sTr) l15 c15 k15
  have DTr : De K mg "_law_truth" sTr ["_law_found", "_law_due"] f15 _ := ⟨F15, PySem.W.mg_of X G a15, F15.binds (ps := ["_law_found", "_law_due"]) fun _ _ _ _ _ _ us hl => match us, hl with | [_, _], _ => rfl⟩
  have F16 := fun_mk (st := sDv) l16 c16 k16
  have DDv : De K mg "_law_divisor" sDv ["_law_one", "_law_other"] f16 _ := ⟨F16, PySem.W.mg_of X G a16, F16.binds (ps := ["_law_one", "_law_other"]) fun _ _ _ _ _ _ us hl => match us, hl with | [_, _], _ => rfl⟩
  have F17 := fun_mk (st := sSp) l17 c17 k17
  have DSp : De K mg "_law_spent" sSp ["_law_chances_here", "_law_order_here"] f17 _ := ⟨F17, PySem.W.mg_of X G a17, F17.binds (ps := ["_law_chances_here", "_law_order_here"]) fun _ _ _ _ _ _ us hl => match us, hl with | [_, _], _ => rfl⟩
  have F18 := fun_mk (st := sAo) l18 c18 k18
  have DAo : De K mg "_law_all_orders" sAo ["_law_many"] f18 _ := ⟨F18, PySem.W.mg_of X G a18, F18.binds (ps := ["_law_many"]) fun _ _ _ _ _ _ us hl => match us, hl with | [_], _ => rfl⟩
  have F19 := fun_mk (st := sAl) l19 c19 k19
  have DAl : De K mg "_law_alike" sAl ["_law_chances_here", "_law_deck_here"] f19 _ := ⟨F19, PySem.W.mg_of X G a19, F19.binds (ps := ["_law_chances_here", "_law_deck_here"]) fun _ _ _ _ _ _ us hl => match us, hl with | [_, _], _ => rfl⟩
  have F20 := fun_mk (st := sLa) l20 c20 k20
  have DLa : De K mg "law" sLa ["_law_script"] fa _ := ⟨F20, PySem.W.mg_of X G a20, F20.binds (ps := ["_law_script"]) fun _ _ _ _ _ _ us hl => match us, hl with | [_], _ => rfl⟩
  refine ⟨PySem.W.fnOf "law" "law" (defArgs sLa) (defBody sLa) (defScope sLa) .none kV20 dc20 pm20 an20 cd20 ct20, fun s v => .of_eq rfl, fun base _ _ => ?_⟩
  have GWh : FnOk l.prog w K mg base CX0 1 f1 _ ["thing", "least", "most"] spWh := ok_Wh DWh T
  have GRw : FnOk l.prog w K mg base CX0 1 f2 _ ["thing"] spRw := ok_Rw DRw T
  have GIc : FnOk l.prog w K mg base CX0 2 f3 _ ["thing"] spIc := ok_Ic DIc T DRw GRw DWh GWh
  have GAk : FnOk l.prog w K mg base CX0 3 f4 _ ["chances"] spAk := ok_Ak DAk T DIc GIc
  have GIo : FnOk l.prog w K mg base CX0 2 f5 _ ["thing", "many"] spIo := ok_Io DIo T DRw GRw DWh GWh
  have GCm : FnOk l.prog w K mg base CX0 1 f6 _ ["one", "other"] spCm := ok_Cm DCm
  have GLw : FnOk l.prog w K mg base CX0 2 f7 _ ["above", "below"] spLw := ok_Lw DLw DCm GCm
  have GEx : FnOk l.prog w K mg base CX0 4 f8 _ ["chances", "order"] spEx := ok_Ex DEx T DAk GAk DIo GIo DLw GLw
  have GAb : FnOk l.prog w K mg base CX0 1 f9 _ ["one", "other"] spAb := ok_Ab DAb
  have GIb : FnOk l.prog w K mg base CX0 4 f10 _ ["chances", "order"] spIb := ok_Ib DIb T DAk GAk DIo GIo DAb GAb
  have GBo : FnOk l.prog w K mg base CX0 4 f11 _ ["chances"] spBo := ok_Bo DBo T DAk GAk DAb GAb
  have GDk : FnOk l.prog w K mg base CX0 1 f12 _ ["_law_script", "_law_many"] (spDk K) := ok_Dk DDk T
  have GLc : FnOk l.prog w K mg base CX0 1 f13 _ ["_law_draw", "_law_more"] spLc := ok_Lc DLc
  have GLs : FnOk l.prog w K mg base CX0 2 f14 _ ["_law_deck_here", "_law_many"] spLs := ok_Ls DLs T DLc GLc
  have GTr : FnOk l.prog w K mg base CX0 1 f15 _ ["_law_found", "_law_due"] spTr := ok_Tr DTr T
  have GDv : FnOk l.prog w K mg base CX0 1 f16 _ ["_law_one", "_law_other"] spCm := ok_Dv DDv
  have GSp : FnOk l.prog w K mg base CX0 2 f17 _ ["_law_chances_here", "_law_order_here"] spSp := ok_Sp DSp DDv GDv
  have GAo : FnOk l.prog w K mg base CX0 1 f18 _ ["_law_many"] spAo := ok_Ao DAo T
  have GAl : FnOk l.prog w K mg base CX0 1 f19 _ ["_law_chances_here", "_law_deck_here"] spAl := ok_Al DAl T
  exact ok_La DLa T DDk GDk DLs GLs DAl GAl DAo GAo DSp GSp DTr GTr DIb GIb DBo GBo DEx GEx
end K51
open PySem PySem.W PyProof.Rows
set_option maxHeartbeats 0 in
theorem PySem.Challenge.cw_triesagain_k51_whole_least_expected_holds : PySem.Challenge.rw_triesagain_k51_whole_least_expected.Holds := by
  w_on; o_law; k_head; (case hw => w_witness2)
  k_fill
  refine L2.walk_of (l := PySem.Challenge.rw_triesagain_k51_whole_least_expected) (n := 63) (k := 5) (x := "_law_script") (CX := fun _ => L2.CX0) (sp := fun w => K51.spLa _) rfl (by decide) rfl ⟨rfl, by decide, by decide⟩ (fun w h Y => PySem.W.kIn_of Y) ?F (fun _ _ a ns hl _ hS => ⟨a, ns, rfl, hS, hl, fun _ => rfl⟩) (fun _ _ _ _ _ h => h)
  case F =>
    intro w mg fa h KX G hmg
    refine' K51.all_mk KX G hmg ?a1 ?l1 ?c1 ?k1 ?a2 ?l2 ?c2 ?k2 ?a3 ?l3 ?c3 ?k3 ?a4 ?l4 ?c4 ?k4 ?a5 ?l5 ?c5 ?k5 ?a6 ?l6 ?c6 ?k6 ?a7 ?l7 ?c7 ?k7 ?a8 ?l8 ?c8 ?k8 ?a9 ?l9 ?c9 ?k9 ?a10 ?l10 ?c10 ?k10 ?a11 ?l11 ?c11 ?k11 ?a12 ?l12 ?c12 ?k12 ?a13 ?l13 ?c13 ?k13 ?a14 ?l14 ?c14 ?k14 ?a15 ?l15 ?c15 ?k15 ?a16 ?l16 ?c16 ?k16 ?a17 ?l17 ?c17 ?k17 ?a18 ?l18 ?c18 ?k18 ?a19 ?l19 ?c19 ?k19 ?a20 ?l20 ?c20 ?k20 ?z1 ?z2 ?z3 ?z4 ?z5 ?z6 ?z7 ?m1 ?m2 ?m3
    (case a1 => k_is); (case l1 => k_is); (case c1 => k_is); (case k1 => k_is); (case a2 => k_is); (case l2 => k_is); (case c2 => k_is); (case k2 => k_is)
    (case a3 => k_is); (case l3 => k_is); (case c3 => k_is); (case k3 => k_is); (case a4 => k_is); (case l4 => k_is); (case c4 => k_is); (case k4 => k_is)
    (case a5 => k_is); (case l5 => k_is); (case c5 => k_is); (case k5 => k_is); (case a6 => k_is); (case l6 => k_is); (case c6 => k_is); (case k6 => k_is)
    (case a7 => k_is); (case l7 => k_is); (case c7 => k_is); (case k7 => k_is); (case a8 => k_is); (case l8 => k_is); (case c8 => k_is); (case k8 => k_is)
    (case a9 => k_is); (case l9 => k_is); (case c9 => k_is); (case k9 => k_is); (case a10 => k_is); (case l10 => k_is); (case c10 => k_is); (case k10 => k_is)
    (case a11 => k_is); (case l11 => k_is); (case c11 => k_is); (case k11 => k_is); (case a12 => k_is); (case l12 => k_is); (case c12 => k_is); (case k12 => k_is)
    (case a13 => k_is); (case l13 => k_is); (case c13 => k_is); (case k13 => k_is); (case a14 => k_is); (case l14 => k_is); (case c14 => k_is); (case k14 => k_is)
    (case a15 => k_is); (case l15 => k_is); (case c15 => k_is); (case k15 => k_is); (case a16 => k_is); (case l16 => k_is); (case c16 => k_is); (case k16 => k_is)
    (case a17 => k_is); (case l17 => k_is); (case c17 => k_is); (case k17 => k_is); (case a18 => k_is); (case l18 => k_is); (case c18 => k_is); (case k18 => k_is)
    (case a19 => k_is); (case l19 => k_is); (case c19 => k_is); (case k19 => k_is); (case a20 => k_is); (case l20 => k_is); (case c20 => k_is); (case k20 => k_is)
    (case z1 => k_is); (case z2 => k_is); (case z3 => k_is); (case z4 => k_is); (case z5 => k_is); (case z6 => k_is); (case z7 => k_is); (case m1 => k_is)
    (case m2 => k_is); (case m3 => k_is)
