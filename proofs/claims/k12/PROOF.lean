import PyProof.Rows.All
import Wide.All
import OpenK.AllK
import Wide.FinOn
import HandS.ForMost
import HandS.EndBits
import HandS.Strs
import HandS.SetFor
import HandS.Style
import HandS.TupMul
import KE.GoesEnum
import HandS.Walk
import PySem.Challenge.RW_nearreach_k12_whole_courses_and_spreads
set_option Elab.async false
set_option maxRecDepth 100000
set_option linter.unusedVariables false
set_option autoImplicit false
namespace K12

/-- a shape; the signs of a one are not asked -/
inductive Sh where
  | one
  | row (ps : List Sh)
  | either (ps : List Sh)
  | many (p : Sh)
  | times (p : Sh) (lo hi : Nat)

abbrev Lang := List Int → Prop
def nilL : Lang := fun w => w = []
def catL (A B : Lang) : Lang := fun w => ∃ u v, w = u ++ v ∧ A u ∧ B v
inductive Star (A : Lang) : List Int → Prop where
  | nil : Star A []
  | app {u v : List Int} : A u → Star A v → Star A (u ++ v)

mutual
def wt : Sh → Nat
  | .one => 1
  | .row ps => wts ps
  | .either ps => wts ps
  | .many p => wt p
  | .times p _ hi => hi * wt p
def wts : List Sh → Nat
  | [] => 0
  | p :: ps => wt p + wts ps
end
mutual
def dep : Sh → Nat
  | .one => 1
  | .row ps => deps ps + 1
  | .either ps => deps ps + 1
  | .many p => dep p + 1
  | .times p _ _ => dep p + 1
def deps : List Sh → Nat
  | [] => 0
  | p :: ps => max (dep p) (deps ps)
end
mutual
/-- an either has a part, a times is rising, few parts -/
def wf : Sh → Prop
  | .one => True
  | .row ps => ps.length ≤ 6 ∧ wfs ps
  | .either ps => ps ≠ [] ∧ ps.length ≤ 6 ∧ wfs ps
  | .many p => wf p
  | .times p lo hi => lo ≤ hi ∧ hi ≤ 4 ∧ wf p
def wfs : List Sh → Prop
  | [] => True
  | p :: ps => wf p ∧ wfs ps
end

/-- n copies, the i-th laid behind i * m places -/
def Rp (f : Int → Lang) (m : Nat) (a : Int) : Nat → Lang
  | 0 => nilL
  | n + 1 => catL (Rp f m a n) (f (a + (n * m : Nat)))

mutual
/-- the courses of a shape whose places come behind the first a -/
def L : Sh → Int → Lang
  | .one, a => fun w => w = [a + 1]
  | .row ps, a => LS ps nilL a
  | .either ps, a => LE ps (fun _ => False) a
  | .many p, a => Star (L p a)
  | .times p lo hi, a => fun w => ∃ n, lo ≤ n ∧ n ≤ hi ∧ Rp (fun b => L p b) (wt p) a n w
/-- A, then a course of each part -/
def LS : List Sh → Lang → Int → Lang
  | [], A, _ => A
  | p :: ps, A, a => LS ps (catL A (L p a)) (a + wt p)
/-- A, or a course of one of the parts -/
def LE : List Sh → Lang → Int → Lang
  | [], A, _ => A
  | p :: ps, A, a => LE ps (fun w => A w ∨ L p a w) (a + wt p)
end

theorem wts_append : ∀ (ps qs : List Sh), wts (ps ++ qs) = wts ps + wts qs
  | [], qs => by simp [wts]
  | p :: ps, qs => by simp [wts, wts_append ps qs, Nat.add_assoc]
theorem LS_snoc : ∀ (ps : List Sh) (p : Sh) (A : Lang) (a : Int), LS (ps ++ [p]) A a = catL (LS ps A a) (L p (a + wts ps))
  | [], p, A, a => by simp [LS, wts]
  | q :: ps, p, A, a => by
    simp only [List.cons_append, LS]
    rw [LS_snoc ps p]
    congr 2
    simp only [wts]; omega
theorem LE_snoc : ∀ (ps : List Sh) (p : Sh) (A : Lang) (a : Int), LE (ps ++ [p]) A a = fun w => LE ps A a w ∨ L p (a + wts ps) w
  | [], p, A, a => by simp [LE, wts]
  | q :: ps, p, A, a => by
    simp only [List.cons_append, LE]
    rw [LE_snoc ps p]
    funext w
    have e : a + (wt q : Int) + (wts ps : Int) = a + (wts (q :: ps) : Int) := by simp only [wts]; omega
    rw [e]
theorem wts_rep (p : Sh) : ∀ n : Nat, wts (List.replicate n p) = n * wt p
  | 0 => by simp [wts]
  | n + 1 => by rw [List.replicate_succ, wts, wts_rep p n, Nat.succ_mul, Nat.add_comm]
theorem LS_rep (p : Sh) (a : Int) : ∀ n : Nat, LS (List.replicate n p) nilL a = Rp (fun b => L p b) (wt p) a n
  | 0 => by simp [LS, Rp]
  | n + 1 => by
    have e : List.replicate (n + 1) p = List.replicate n p ++ [p] := by rw [List.replicate_succ']
    rw [e, LS_snoc, LS_rep p a n, wts_rep]
    rfl

/-! ### an induction over shapes -/
theorem Sh.induct {P : Sh → Prop} (h1 : P .one) (h2 : ∀ ps, (∀ p ∈ ps, P p) → P (.row ps)) (h3 : ∀ ps, (∀ p ∈ ps, P p) → P (.either ps))
    (h4 : ∀ p, P p → P (.many p)) (h5 : ∀ p lo hi, P p → P (.times p lo hi)) : ∀ s, P s := by
  intro s
  refine Sh.rec (motive_1 := P) (motive_2 := fun ps => ∀ p ∈ ps, P p) h1 h2 h3 h4 h5 ?_ ?_ s
  · intro p hp; cases hp
  · intro p ps hp hps q hq
    rcases List.mem_cons.mp hq with e | hq
    · rw [e]; exact hp
    · exact hps q hq
theorem wfs_mem : ∀ {ps : List Sh}, wfs ps ↔ ∀ p ∈ ps, wf p
  | [] => by simp [wfs]
  | p :: ps => by simp [wfs, wfs_mem (ps := ps)]
theorem wts_zero : ∀ {ps : List Sh}, wts ps = 0 → ∀ p ∈ ps, wt p = 0
  | [], _, p, hp => by cases hp
  | q :: ps, h, p, hp => by
    simp only [wts] at h
    rcases List.mem_cons.mp hp with e | hp
    · rw [e]; omega
    · exact wts_zero (ps := ps) (by omega) p hp
theorem deps_mem : ∀ {ps : List Sh} {p : Sh}, p ∈ ps → dep p ≤ deps ps
  | q :: ps, p, hp => by
    simp only [deps]
    rcases List.mem_cons.mp hp with e | hp
    · rw [e]; omega
    · have := deps_mem (ps := ps) hp; omega

/-! ### without places there is just the empty course -/
theorem star_nil {A : Lang} (h : ∀ w, A w ↔ w = []) : ∀ w, Star A w ↔ w = [] := by
  intro w
  constructor
  · intro s
    induction s with
    | nil => rfl
    | app hu _ ih => rw [(h _).mp hu, ih]; rfl
  · rintro rfl; exact .nil
theorem cat_nil {A B : Lang} (h : ∀ w, A w ↔ w = []) (h' : ∀ w, B w ↔ w = []) : ∀ w, catL A B w ↔ w = [] := by
  intro w
  constructor
  · rintro ⟨u, v, rfl, a, b⟩
    rw [(h _).mp a, (h' _).mp b]; rfl
  · rintro rfl; exact ⟨[], [], rfl, (h _).mpr rfl, (h' _).mpr rfl⟩
theorem L_zero : ∀ s, wf s → wt s = 0 → ∀ (a : Int) (w : List Int), L s a w ↔ w = [] := by
  intro s
  induction s using Sh.induct with
  | h1 => intro _ h; simp [wt] at h
  | h2 ps ih =>
    intro hw h a
    simp only [wf] at hw
    simp only [wt] at h
    simp only [L]
    have key : ∀ (qs : List Sh) (A : Lang) (a : Int), (∀ q ∈ qs, q ∈ ps) → (∀ w, A w ↔ w = []) → ∀ w, LS qs A a w ↔ w = [] := by
      intro qs
      induction qs with
      | nil => intro A a _ hA; simpa [LS] using hA
      | cons q qs ihq =>
        intro A a hm hA
        simp only [LS]
        refine ihq _ _ (fun r hr => hm r (List.mem_cons_of_mem _ hr)) (cat_nil hA ?_)
        have hq := hm q List.mem_cons_self
        exact ih q hq (wfs_mem.mp hw.2 q hq) (wts_zero h q hq) a
    exact key ps nilL a (fun _ h => h) (fun _ => Iff.rfl)
  | h3 ps ih =>
    intro hw h a
    simp only [wf] at hw
    simp only [wt] at h
    simp only [L]
    have key : ∀ (qs : List Sh) (A : Lang) (a : Int), (∀ q ∈ qs, q ∈ ps) → (∀ w, A w → w = []) → (A [] ∨ qs ≠ []) → ∀ w, LE qs A a w ↔ w = [] := by
      intro qs
      induction qs with
      | nil =>
        intro A a _ hA hn w
        simp only [LE]
        refine ⟨hA w, ?_⟩
        rintro rfl
        rcases hn with z | z
        · exact z
        · exact absurd rfl z
      | cons q qs ihq =>
        intro A a hm hA _ w
        simp only [LE]
        have hq := hm q List.mem_cons_self
        have hz := ih q hq (wfs_mem.mp hw.2.2 q hq) (wts_zero h q hq) a
        refine ihq _ _ (fun r hr => hm r (List.mem_cons_of_mem _ hr)) (fun w hw => ?_) (.inl (.inr ((hz []).mpr rfl))) w
        rcases hw with z | z
        · exact hA w z
        · exact (hz w).mp z
    exact key ps _ a (fun _ h => h) (fun _ h => h.elim) (.inr hw.1)
  | h4 p ih =>
    intro hw h a
    simp only [wf] at hw
    simp only [wt] at h
    simp only [L]
    exact star_nil (ih hw h a)
  | h5 p lo hi ih =>
    intro hw h a w
    simp only [wf] at hw
    simp only [wt] at h
    simp only [L]
    have key : ∀ n, n ≤ hi → ∀ w, Rp (fun b => L p b) (wt p) a n w ↔ w = [] := by
      intro n
      induction n with
      | zero => intro _ w; exact Iff.rfl
      | succ n ihn =>
        intro hn
        simp only [Rp]
        refine cat_nil (ihn (by omega)) (ih hw.2.2 ?_ _)
        rcases Nat.mul_eq_zero.mp h with z | z
        · omega
        · exact z
    constructor
    · rintro ⟨n, _, h2, h3⟩
      exact (key n h2 w).mp h3
    · rintro rfl
      exact ⟨hi, hw.1, Nat.le_refl _, (key hi (Nat.le_refl _) _).mpr rfl⟩

/-! ### firsts, lasts, followers -/
def Runs (E : Int → Prop) (M : Int → Int → Prop) : Int → List Int → Prop
  | x, [] => E x
  | x, y :: w => M x y ∧ Runs E M y w
def Locd (F E : Int → Prop) (M : Int → Int → Prop) : List Int → Prop
  | [] => False
  | x :: w => F x ∧ Runs E M x w
/-- places n+1 .. m; F begins, E ends, e: the empty one; M: what stands straight behind what; A the courses -/
structure Glu (n m : Int) (F E : Int → Prop) (e : Prop) (M : Int → Int → Prop) (A : Lang) : Prop where
  fr : ∀ x, F x → n < x ∧ x ≤ m
  er : ∀ x, E x → n < x ∧ x ≤ m
  mr : ∀ x y, M x y → (n < x ∧ x ≤ m) ∧ n < y ∧ y ≤ m
  ok : ∀ w, A w ↔ (w = [] ∧ e) ∨ Locd F E M w

theorem Glu.congr {n m : Int} {F F' E E' : Int → Prop} {e e' : Prop} {M M' : Int → Int → Prop} {A A' : Lang} (g : Glu n m F E e M A) (hF : ∀ x, F' x ↔ F x) (hE : ∀ x, E' x ↔ E x) (he : e' ↔ e) (hM : ∀ x y, M' x y ↔ M x y) (hA : ∀ w, A' w ↔ A w) : Glu n m F' E' e' M' A' := by
  have e1 : F' = F := funext fun x => propext (hF x)
  have e2 : E' = E := funext fun x => propext (hE x)
  have e3 : e' = e := propext he
  have e4 : M' = M := funext fun x => funext fun y => propext (hM x y)
  have e5 : A' = A := funext fun w => propext (hA w)
  subst e1 e2 e3 e4 e5
  exact g

theorem gl_nil (n : Int) : Glu n n (fun _ => False) (fun _ => False) True (fun _ _ => False) nilL where
  fr := fun _ h => h.elim
  er := fun _ h => h.elim
  mr := fun _ _ h => h.elim
  ok := fun w => by
    cases w with
    | nil => simp [nilL]
    | cons x w => simp [nilL, Locd]
theorem gl_none (n : Int) : Glu n n (fun _ => False) (fun _ => False) False (fun _ _ => False) (fun _ => False) where
  fr := fun _ h => h.elim
  er := fun _ h => h.elim
  mr := fun _ _ h => h.elim
  ok := fun w => by cases w <;> simp [Locd]
theorem gl_one (n : Int) : Glu n (n + 1) (fun x => x = n + 1) (fun x => x = n + 1) False (fun _ _ => False) (fun w => w = [n + 1]) where
  fr := fun _ h => by omega
  er := fun _ h => by omega
  mr := fun _ _ h => h.elim
  ok := fun w => by
    match w with
    | [] => simp [Locd]
    | [x] => simp [Locd, Runs]
    | x :: y :: w => simp [Locd, Runs]

section
variable {n m k : Int} {F1 E1 F2 E2 : Int → Prop} {e1 e2 : Prop} {M1 M2 : Int → Int → Prop} {A B : Lang}

/-- from the upper part one stays there -/
theorem run_up {E E' : Int → Prop} {M M' : Int → Int → Prop} {R : Int → Prop} (hE : ∀ x, R x → (E x ↔ E' x)) (hM : ∀ x y, R x → (M x y ↔ M' x y)) (hR : ∀ x y, R x → M' x y → R y) :
    ∀ (w : List Int) (x : Int), R x → (Runs E M x w ↔ Runs E' M' x w)
  | [], x, h => hE x h
  | y :: w, x, h => by
    simp only [Runs]
    constructor
    · rintro ⟨a, b⟩
      have a' := (hM x y h).mp a
      exact ⟨a', (run_up hE hM hR w y (hR x y h a')).mp b⟩
    · rintro ⟨a, b⟩
      exact ⟨(hM x y h).mpr a, (run_up hE hM hR w y (hR x y h a)).mpr b⟩

/-- two things, the one straight behind the other -/
theorem gl_seq (g1 : Glu n m F1 E1 e1 M1 A) (g2 : Glu m k F2 E2 e2 M2 B) (hnm : n ≤ m) (hmk : m ≤ k) :
    Glu n k (fun x => F1 x ∨ (e1 ∧ F2 x)) (fun x => (e2 ∧ E1 x) ∨ E2 x) (e1 ∧ e2) (fun x y => M1 x y ∨ M2 x y ∨ (E1 x ∧ F2 y)) (catL A B) := by
  have up : ∀ (w : List Int) (x : Int), m < x → (Runs (fun x => (e2 ∧ E1 x) ∨ E2 x) (fun x y => M1 x y ∨ M2 x y ∨ (E1 x ∧ F2 y)) x w ↔ Runs E2 M2 x w) := by
    refine run_up (R := fun x => m < x) (fun x h => ?_) (fun x y h => ?_) (fun x y _ h => (g2.mr x y h).2.1)
    · constructor
      · rintro (⟨_, z⟩ | z)
        · have := g1.er x z; omega
        · exact z
      · exact .inr
    · constructor
      · rintro (z | z | ⟨z, _⟩)
        · have := (g1.mr x y z).1; omega
        · exact z
        · have := g1.er x z; omega
      · exact fun z => .inr (.inl z)
  have low : ∀ (w : List Int) (x : Int), x ≤ m → (Runs (fun x => (e2 ∧ E1 x) ∨ E2 x) (fun x y => M1 x y ∨ M2 x y ∨ (E1 x ∧ F2 y)) x w ↔
      ∃ u v, w = u ++ v ∧ Runs E1 M1 x u ∧ ((v = [] ∧ e2) ∨ Locd F2 E2 M2 v)) := by
    intro w
    induction w with
    | nil =>
      intro x h
      constructor
      · rintro (⟨a, z⟩ | z)
        · exact ⟨[], [], rfl, z, .inl ⟨rfl, a⟩⟩
        · have := g2.er x z; omega
      · rintro ⟨u, v, q, r, s⟩
        have qu : u = [] := by cases u with | nil => rfl | cons => cases q
        subst qu
        have qv : v = [] := q.symm
        subst qv
        rcases s with ⟨_, s⟩ | s
        · exact .inl ⟨s, r⟩
        · exact s.elim
    | cons y w ih =>
      intro x h
      simp only [Runs]
      constructor
      · rintro ⟨z | z | ⟨z1, z2⟩, r⟩
        · obtain ⟨u, v, q, r1, r2⟩ := (ih y (g1.mr x y z).2.2).mp r
          exact ⟨y :: u, v, by rw [q]; rfl, ⟨z, r1⟩, r2⟩
        · have := (g2.mr x y z).1; omega
        · have hy := g2.fr y z2
          exact ⟨[], y :: w, rfl, z1, .inr ⟨z2, (up w y hy.1).mp r⟩⟩
      · rintro ⟨u, v, q, r, s⟩
        cases u with
        | nil =>
          have qv : y :: w = v := q
          subst qv
          rcases s with ⟨s, _⟩ | s
          · cases s
          · exact ⟨.inr (.inr ⟨r, s.1⟩), (up w y (g2.fr y s.1).1).mpr s.2⟩
        | cons y' u =>
          injection q with q1 q2
          subst q1
          exact ⟨.inl r.1, (ih y (g1.mr x y r.1).2.2).mpr ⟨u, v, q2, r.2, s⟩⟩
  refine ⟨fun x h => ?_, fun x h => ?_, fun x y h => ?_, fun w => ?_⟩
  · rcases h with h | ⟨_, h⟩
    · have := g1.fr x h; omega
    · have := g2.fr x h; omega
  · rcases h with ⟨_, h⟩ | h
    · have := g1.er x h; omega
    · have := g2.er x h; omega
  · rcases h with h | h | ⟨h, h'⟩
    · have := g1.mr x y h; omega
    · have := g2.mr x y h; omega
    · have := g1.er x h; have := g2.fr y h'; omega
  · constructor
    · rintro ⟨u, v, rfl, a, b⟩
      rcases (g1.ok u).mp a with ⟨rfl, a1⟩ | a
      · rcases (g2.ok v).mp b with ⟨rfl, b1⟩ | b
        · exact .inl ⟨rfl, a1, b1⟩
        · right
          cases v with
          | nil => exact b.elim
          | cons y v => exact ⟨.inr ⟨a1, b.1⟩, (up v y (g2.fr y b.1).1).mpr b.2⟩
      · right
        cases u with
        | nil => exact a.elim
        | cons x u => exact ⟨.inl a.1, (low (u ++ v) x (g1.fr x a.1).2).mpr ⟨u, v, rfl, a.2, (g2.ok v).mp b⟩⟩
    · rintro (⟨rfl, a, b⟩ | h)
      · exact ⟨[], [], rfl, (g1.ok _).mpr (.inl ⟨rfl, a⟩), (g2.ok _).mpr (.inl ⟨rfl, b⟩)⟩
      · cases w with
        | nil => exact h.elim
        | cons x w =>
          obtain ⟨f | ⟨a, f⟩, r⟩ := h
          · obtain ⟨u, v, q, r1, r2⟩ := (low w x (g1.fr x f).2).mp r
            exact ⟨x :: u, v, by rw [q]; rfl, (g1.ok _).mpr (.inr ⟨f, r1⟩), (g2.ok _).mpr r2⟩
          · exact ⟨[], x :: w, rfl, (g1.ok _).mpr (.inl ⟨rfl, a⟩), (g2.ok _).mpr (.inr ⟨f, (up w x (g2.fr x f).1).mp r⟩)⟩

/-- one of two things -/
theorem gl_alt (g1 : Glu n m F1 E1 e1 M1 A) (g2 : Glu m k F2 E2 e2 M2 B) (hnm : n ≤ m) (hmk : m ≤ k) :
    Glu n k (fun x => F1 x ∨ F2 x) (fun x => E1 x ∨ E2 x) (e1 ∨ e2) (fun x y => M1 x y ∨ M2 x y) (fun w => A w ∨ B w) := by
  have up : ∀ (w : List Int) (x : Int), m < x → (Runs (fun x => E1 x ∨ E2 x) (fun x y => M1 x y ∨ M2 x y) x w ↔ Runs E2 M2 x w) := by
    refine run_up (R := fun x => m < x) (fun x h => ?_) (fun x y h => ?_) (fun x y _ h => (g2.mr x y h).2.1)
    · refine ⟨?_, .inr⟩
      rintro (z | z)
      · have := g1.er x z; omega
      · exact z
    · refine ⟨?_, .inr⟩
      rintro (z | z)
      · have := g1.mr x y z; omega
      · exact z
  have low : ∀ (w : List Int) (x : Int), x ≤ m → (Runs (fun x => E1 x ∨ E2 x) (fun x y => M1 x y ∨ M2 x y) x w ↔ Runs E1 M1 x w) := by
    refine run_up (R := fun x => x ≤ m) (fun x h => ?_) (fun x y h => ?_) (fun x y _ h => (g1.mr x y h).2.2)
    · refine ⟨?_, .inl⟩
      rintro (z | z)
      · exact z
      · have := g2.er x z; omega
    · refine ⟨?_, .inl⟩
      rintro (z | z)
      · exact z
      · have := g2.mr x y z; omega
  refine ⟨fun x h => ?_, fun x h => ?_, fun x y h => ?_, fun w => ?_⟩
  · rcases h with h | h
    · have := g1.fr x h; omega
    · have := g2.fr x h; omega
  · rcases h with h | h
    · have := g1.er x h; omega
    · have := g2.er x h; omega
  · rcases h with h | h
    · have := g1.mr x y h; omega
    · have := g2.mr x y h; omega
  · rw [g1.ok w, g2.ok w]
    cases w with
    | nil => simp [Locd]
    | cons x w =>
      simp only [Locd, reduceCtorEq, false_and, false_or]
      constructor
      · rintro (⟨f, r⟩ | ⟨f, r⟩)
        · exact ⟨.inl f, (low w x (g1.fr x f).2).mpr r⟩
        · exact ⟨.inr f, (up w x (g2.fr x f).1).mpr r⟩
      · rintro ⟨f | f, r⟩
        · exact .inl ⟨f, (low w x (g1.fr x f).2).mp r⟩
        · exact .inr ⟨f, (up w x (g2.fr x f).1).mp r⟩

/-- any count of times -/
theorem gl_many (g : Glu n m F1 E1 e1 M1 A) : Glu n m F1 E1 True (fun x y => M1 x y ∨ (E1 x ∧ F1 y)) (Star A) := by
  have run_mono : ∀ (w : List Int) (x : Int), Runs E1 M1 x w → Runs E1 (fun x y => M1 x y ∨ (E1 x ∧ F1 y)) x w := by
    intro w
    induction w with
    | nil => exact fun x h => h
    | cons y w ih => exact fun x h => ⟨.inl h.1, ih y h.2⟩
  have join : ∀ (u : List Int) (x y : Int) (t : List Int), Runs E1 (fun x y => M1 x y ∨ (E1 x ∧ F1 y)) x u → F1 y → Runs E1 (fun x y => M1 x y ∨ (E1 x ∧ F1 y)) y t → Runs E1 (fun x y => M1 x y ∨ (E1 x ∧ F1 y)) x (u ++ y :: t) := by
    intro u
    induction u with
    | nil => exact fun x y t h1 h2 h3 => ⟨.inr ⟨h1, h2⟩, h3⟩
    | cons z u ih => exact fun x y t h1 h2 h3 => ⟨h1.1, ih z y t h1.2 h2 h3⟩
  have more : ∀ v, Star A v → ∀ (x : Int) (u : List Int), Runs E1 (fun x y => M1 x y ∨ (E1 x ∧ F1 y)) x u → Runs E1 (fun x y => M1 x y ∨ (E1 x ∧ F1 y)) x (u ++ v) := by
    intro v hv
    induction hv with
    | nil => intro x u h; rw [List.append_nil]; exact h
    | @app u1 v1 a _ ih =>
      intro x u h
      rcases (g.ok u1).mp a with ⟨rfl, _⟩ | a
      · exact ih x u h
      · cases u1 with
        | nil => exact a.elim
        | cons y t => exact join u x y (t ++ v1) h a.1 (ih y t (run_mono t y a.2))
  have back : ∀ (w : List Int) (x : Int), Runs E1 (fun x y => M1 x y ∨ (E1 x ∧ F1 y)) x w → ∃ u v, w = u ++ v ∧ Runs E1 M1 x u ∧ Star A v := by
    intro w
    induction w with
    | nil => exact fun x h => ⟨[], [], rfl, h, .nil⟩
    | cons y w ih =>
      rintro x ⟨h | ⟨h1, h2⟩, r⟩
      · obtain ⟨u, v, q, r1, r2⟩ := ih y r
        exact ⟨y :: u, v, by rw [q]; rfl, ⟨h, r1⟩, r2⟩
      · obtain ⟨u, v, q, r1, r2⟩ := ih y r
        exact ⟨[], y :: w, rfl, h1, by rw [q]; exact .app (u := y :: u) ((g.ok _).mpr (.inr ⟨h2, r1⟩)) r2⟩
  refine ⟨g.fr, g.er, fun x y h => ?_, fun w => ?_⟩
  · rcases h with h | ⟨h, h'⟩
    · exact g.mr x y h
    · exact ⟨g.er x h, g.fr y h'⟩
  · constructor
    · intro h
      have key : ∀ w, Star A w → (w = [] ∧ True) ∨ Locd F1 E1 (fun x y => M1 x y ∨ (E1 x ∧ F1 y)) w := by
        intro w hw
        induction hw with
        | nil => exact .inl ⟨rfl, trivial⟩
        | @app u v a s ih =>
          rcases (g.ok u).mp a with ⟨rfl, _⟩ | a
          · exact ih
          · cases u with
            | nil => exact a.elim
            | cons x u => exact .inr ⟨a.1, more v s x u (run_mono u x a.2)⟩
      exact key w h
    · rintro (⟨rfl, _⟩ | h)
      · exact .nil
      · cases w with
        | nil => exact h.elim
        | cons x w =>
          obtain ⟨u, v, q, r1, r2⟩ := back w x h.2
          rw [q]
          exact .app (u := x :: u) ((g.ok _).mpr (.inr ⟨h.1, r1⟩)) r2

/-- two kinds of ends over the same places -/
theorem gl_ends (g1 : Glu n m F1 E1 e1 M1 A) (g2 : Glu n m F1 E2 e2 M1 B) : Glu n m F1 (fun x => E1 x ∨ E2 x) (e1 ∨ e2) M1 (fun w => A w ∨ B w) := by
  have key : ∀ (w : List Int) (x : Int), Runs (fun x => E1 x ∨ E2 x) M1 x w ↔ (Runs E1 M1 x w ∨ Runs E2 M1 x w) := by
    intro w
    induction w with
    | nil => exact fun x => Iff.rfl
    | cons y w ih =>
      intro x
      simp only [Runs, ih y]
      constructor
      · rintro ⟨a, b | b⟩
        · exact .inl ⟨a, b⟩
        · exact .inr ⟨a, b⟩
      · rintro (⟨a, b⟩ | ⟨a, b⟩)
        · exact ⟨a, .inl b⟩
        · exact ⟨a, .inr b⟩
  refine ⟨g1.fr, fun x h => ?_, g1.mr, fun w => ?_⟩
  · rcases h with h | h
    · exact g1.er x h
    · exact g2.er x h
  · rw [g1.ok w, g2.ok w]
    cases w with
    | nil => simp [Locd]
    | cons x w =>
      simp only [Locd, reduceCtorEq, false_and, false_or, key w x]
      constructor
      · rintro (⟨a, b⟩ | ⟨a, b⟩)
        · exact ⟨a, .inl b⟩
        · exact ⟨a, .inr b⟩
      · rintro ⟨a, b | b⟩
        · exact .inl ⟨a, b⟩
        · exact .inr ⟨a, b⟩
/-- places more, from which nothing comes back -/
theorem gl_wider {F' : Int → Prop} {M' : Int → Int → Prop} (g1 : Glu n m F1 E1 e1 M1 A) (hmk : m ≤ k) (hF : ∀ x, F' x ↔ F1 x ∨ (F' x ∧ m < x)) (hFk : ∀ x, F' x → n < x ∧ x ≤ k)
    (hM : ∀ x y, M' x y ↔ M1 x y ∨ (M' x y ∧ m < y)) (hup : ∀ x y, M' x y → m < x → m < y) (hMk : ∀ x y, M' x y → (n < x ∧ x ≤ k) ∧ n < y ∧ y ≤ k) : Glu n k F' E1 e1 M' A := by
  have up : ∀ (w : List Int) (x : Int), m < x → ¬ Runs E1 M' x w := by
    intro w
    induction w with
    | nil => intro x h z; have := g1.er x z; omega
    | cons y w ih => exact fun x h z => ih y (hup x y z.1 h) z.2
  have low : ∀ (w : List Int) (x : Int), Runs E1 M' x w ↔ Runs E1 M1 x w := by
    intro w
    induction w with
    | nil => exact fun x => Iff.rfl
    | cons y w ih =>
      intro x
      simp only [Runs]
      constructor
      · rintro ⟨a, b⟩
        rcases (hM x y).mp a with z | ⟨_, z⟩
        · exact ⟨z, (ih y).mp b⟩
        · exact absurd b (up w y z)
      · rintro ⟨a, b⟩
        exact ⟨(hM x y).mpr (.inl a), (ih y).mpr b⟩
  refine ⟨hFk, fun x h => ?_, hMk, fun w => ?_⟩
  · have := g1.er x h; omega
  · rw [g1.ok w]
    cases w with
    | nil => simp [Locd]
    | cons x w =>
      simp only [Locd, reduceCtorEq, false_and, false_or]
      constructor
      · rintro ⟨a, b⟩
        exact ⟨(hF x).mpr (.inl a), (low w x).mpr b⟩
      · rintro ⟨a, b⟩
        rcases (hF x).mp a with z | ⟨_, z⟩
        · exact ⟨z, (low w x).mp b⟩
        · exact absurd b (up w x z)
end

/-! ### stretches of a row -/
/-- the stretch of r from k to j is in A -/
def Seg (A : Lang) (r : List Int) (k j : Int) : Prop := 0 ≤ k ∧ k ≤ j ∧ j ≤ r.length ∧ A ((r.drop k.toNat).take (j - k).toNat)
theorem Seg.congr {A B : Lang} (h : ∀ w, A w ↔ B w) (r : List Int) (k j : Int) : Seg A r k j ↔ Seg B r k j := by
  have e : A = B := funext fun w => propext (h w)
  rw [e]
theorem seg_nil {r : List Int} {k j : Int} (h0 : 0 ≤ k) (h1 : k ≤ r.length) : Seg nilL r k j ↔ j = k := by
  unfold Seg nilL
  constructor
  · rintro ⟨_, h2, h3, h4⟩
    have q := congrArg List.length h4
    rw [List.length_take, List.length_drop, List.length_nil] at q
    omega
  · rintro rfl
    refine ⟨h0, Int.le_refl _, h1, ?_⟩
    rw [Int.sub_self]; simp
theorem seg_cat {A B : Lang} {r : List Int} {k j : Int} : Seg (catL A B) r k j ↔ ∃ i, Seg A r k i ∧ Seg B r i j := by
  unfold Seg catL
  constructor
  · rintro ⟨h1, h2, h3, u, v, q, a, b⟩
    have ql := congrArg List.length q
    rw [List.length_take, List.length_drop, List.length_append] at ql
    have e1 : (k + u.length - k).toNat = u.length := by omega
    have e2 : (j - (k + u.length)).toNat = v.length := by omega
    have e3 : (k + (u.length : Int)).toNat = k.toNat + u.length := by omega
    have e4 : (j - k).toNat = u.length + v.length := by omega
    rw [e4] at q
    refine ⟨k + u.length, ⟨h1, by omega, by omega, ?_⟩, by omega, by omega, h3, ?_⟩
    · rw [e1]
      have : (r.drop k.toNat).take u.length = ((r.drop k.toNat).take (u.length + v.length)).take u.length := by rw [List.take_take, Nat.min_eq_left (Nat.le_add_right _ _)]
      rw [this, q, List.take_left' rfl]; exact a
    · rw [e2, e3, ← List.drop_drop]
      have : ((r.drop k.toNat).drop u.length).take v.length = ((r.drop k.toNat).take (u.length + v.length)).drop u.length := by rw [List.drop_take, Nat.add_sub_cancel_left]
      rw [this, q, List.drop_left' rfl]; exact b
  · rintro ⟨i, ⟨h1, h2, h3, a⟩, h4, h5, h6, b⟩
    refine ⟨h1, by omega, h6, _, _, ?_, a, b⟩
    have e3 : i.toNat = k.toNat + (i - k).toNat := by omega
    have e4 : (j - k).toNat = (i - k).toNat + (j - i).toNat := by omega
    rw [e3, e4, ← List.drop_drop, List.take_add]
theorem seg_one {a : Int} {r : List Int} {k j : Int} : Seg (fun w => w = [a + 1]) r k j ↔ 0 ≤ k ∧ r[k.toNat]? = some (a + 1) ∧ j = k + 1 := by
  unfold Seg
  constructor
  · rintro ⟨h1, h2, h3, q⟩
    have ql := congrArg List.length q
    rw [List.length_take, List.length_drop, List.length_singleton] at ql
    have e : (j - k).toNat = 1 := by omega
    rw [e] at q
    have hk : k.toNat < r.length := by omega
    rw [List.drop_eq_getElem_cons hk] at q
    simp only [List.take_succ_cons, List.take_zero, List.cons.injEq, and_true] at q
    exact ⟨h1, by rw [List.getElem?_eq_getElem hk, q], by omega⟩
  · rintro ⟨h1, h2, rfl⟩
    obtain ⟨hk, e⟩ := List.getElem?_eq_some_iff.mp h2
    refine ⟨h1, by omega, by omega, ?_⟩
    have e' : (k + 1 - k).toNat = 1 := by omega
    rw [e', List.drop_eq_getElem_cons hk, e]
    rfl
theorem Star.snoc {A : Lang} {u v : List Int} (s : Star A u) (a : A v) : Star A (u ++ v) := by
  induction s with
  | nil => have := Star.app a (Star.nil (A := A)); rw [List.append_nil] at this; exact this
  | @app x y hx _ ih => rw [List.append_assoc]; exact .app hx ih
theorem seg_star_refl {A : Lang} {r : List Int} {k : Int} (h0 : 0 ≤ k) (h1 : k ≤ r.length) : Seg (Star A) r k k := by
  refine ⟨h0, Int.le_refl _, h1, ?_⟩
  rw [Int.sub_self]
  have e : (r.drop k.toNat).take (0 : Int).toNat = [] := by simp
  rw [e]; exact .nil
theorem seg_star_snoc {A : Lang} {r : List Int} {k i j : Int} (s : Seg (Star A) r k i) (a : Seg A r i j) : Seg (Star A) r k j := by
  have q : Seg (catL (Star A) A) r k j := seg_cat.mpr ⟨i, s, a⟩
  obtain ⟨h1, h2, h3, u, v, e, su, av⟩ := q
  exact ⟨h1, h2, h3, by rw [e]; exact su.snoc av⟩
theorem seg_star_in {A : Lang} {r : List Int} {P : Int → Prop} (hP : ∀ i j, P i → Seg A r i j → P j) {k j : Int} (hk : P k) (s : Seg (Star A) r k j) : P j := by
  have key : ∀ w, Star A w → ∀ k : Int, P k → 0 ≤ k → k + w.length ≤ r.length → (r.drop k.toNat).take w.length = w → P (k + w.length) := by
    intro w hw
    induction hw with
    | nil => intro k hk _ _ _; simpa using hk
    | @app u v a sv ih =>
      intro k hk h0 h1 h2
      rw [List.length_append] at h1 h2 ⊢
      have q : Seg (catL A (fun w => w = v)) r k (k + (u.length + v.length : Nat)) := by
        refine ⟨h0, by omega, by omega, u, v, ?_, a, rfl⟩
        have e : (k + ((u.length + v.length : Nat) : Int) - k).toNat = u.length + v.length := by omega
        rw [e]; exact h2
      obtain ⟨i, s1, s2⟩ := seg_cat.mp q
      have ei : i = k + u.length := by
        have l2 := congrArg List.length s2.2.2.2
        rw [List.length_take, List.length_drop] at l2
        have := s2.2.1; have := s2.1; have := s2.2.2.1
        omega
      have r1 := hP k i hk s1
      rw [ei] at r1 s2
      have e2 : (k + ((u.length + v.length : Nat) : Int)) = (k + u.length) + (v.length : Nat) := by omega
      rw [e2]
      refine ih (k + u.length) r1 (by omega) (by omega) ?_
      have s3 := s2.2.2.2
      have e3 : (k + ((u.length + v.length : Nat) : Int) - (k + u.length)).toNat = v.length := by omega
      rw [e3] at s3
      exact s3
  obtain ⟨h1, h2, h3, s⟩ := s
  have hl : ((r.drop k.toNat).take (j - k).toNat).length = (j - k).toNat := by
    rw [List.length_take, List.length_drop]; omega
  have q := key _ s k hk h1 (by rw [hl]; omega) (by rw [hl])
  rw [hl] at q
  have e : k + ((j - k).toNat : Int) = j := by omega
  rw [e] at q; exact q
theorem seg_whole {A : Lang} {r : List Int} : Seg A r 0 r.length ↔ A r := by
  unfold Seg
  have e : (r.drop (0 : Int).toNat).take ((r.length : Int) - 0).toNat = r := by
    have e1 : ((r.length : Int) - 0).toNat = r.length := by omega
    rw [e1]; simp
  rw [e]
  constructor
  · exact fun h => h.2.2.2
  · exact fun h => ⟨Int.le_refl _, by omega, Int.le_refl _, h⟩
theorem Seg.bounds {A : Lang} {r : List Int} {k j : Int} (h : Seg A r k j) : 0 ≤ k ∧ k ≤ j ∧ j ≤ r.length := ⟨h.1, h.2.1, h.2.2.1⟩

/-! ### few unlike numbers -/
theorem nodup_few : ∀ (n : Nat) (l : List Int) (a : Int), l.Nodup → (∀ x ∈ l, a ≤ x ∧ x < a + n) → l.length ≤ n
  | 0, l, a, _, h => by
    cases l with
    | nil => exact Nat.le_refl _
    | cons x l => have := h x List.mem_cons_self; omega
  | n + 1, l, a, nd, h => by
    have h1 := nodup_few n (l.filter (fun x => decide (x ≠ a + n))) a (nd.filter _) (fun x hx => by
      rw [List.mem_filter] at hx
      have := h x hx.1
      have h2 : x ≠ a + n := of_decide_eq_true hx.2
      omega)
    have h2 : l.length ≤ (l.filter (fun x => decide (x ≠ a + n))).length + 1 := by
      have key : ∀ l : List Int, l.Nodup → l.length ≤ (l.filter (fun x => decide (x ≠ a + n))).length + 1 := by
        intro l
        induction l with
        | nil => intro _; simp
        | cons x l ih =>
          intro nd
          have nd' := List.nodup_cons.mp nd
          by_cases e : x = a + n
          · have e2 : (x :: l).filter (fun x => decide (x ≠ a + n)) = l := by
              rw [List.filter_cons, if_neg (by simp [e])]
              refine List.filter_eq_self.mpr fun y hy => decide_eq_true ?_
              rintro rfl
              exact nd'.1 (by rw [e]; exact hy)
            rw [e2]; simp
          · rw [List.filter_cons, if_pos (by simp [e]), List.length_cons, List.length_cons]
            have := ih nd'.2
            omega
      exact key l nd
    omega
end K12

/-! further rules over the hand layer: set(a list of ints), enumerate(a tuple) -/
namespace K12
open PySem PySem.Spec PyProof.Rows L2

/-! ### set(a list of ints) -/
section
variable {P : Program} {w : World} {A : Around} {E : Value → Shared → Prop} {s : Shared}
/-- the set object as it is made -/
abbrev bareSet (w : World) : Obj := { cls := .type "set", dict := none, data := .set #[] 0 (.fresh 0 0 (!w.params.followText "set-order")) }
/-- what set(xs) leaves behind: the members are those of ns, all that stood is as it was -/
def Filled (w : World) (h h' : Heap) (ns : List Int) : Prop :=
  (∃ c, c ≤ ns.length ∧ SetR w h' h.objs.size (fun j => decide (j ∈ ns)) c) ∧ ∀ b o, h.get? b = some o → h'.get? b = some o

set_option maxHeartbeats 8000000 in
theorem set_of_list {l : Addr} {items : Array Value} (ns : List Int) {Q : Value → Shared → Prop} (hd : A.handled = none) (pl : s.heap.IsList l items) (pi : IntsAre items.toList ns) (few : ns.length + 1 < scanBound)
    (hQ : ∀ h' tk, Filled w s.heap h' ns → Q (.ref s.heap.objs.size) { s with heap := h', toks := tk }) : wpAny (model P w) A (call (.type "set") [.ref l]) Q E s := by
  have size_eq : items.size = ns.length := by simpa using IntsAre.length pi
  obtain ⟨cm, tm, mro⟩ := F.called_set.mro
  have m1 := F.called_set.made
  have m2 := F.called_set.sub
  have m3 := F.called_set.notType
  have m4 := F.called_set.canCreate
  have m5 := F.typeCall_set_1 (.ref l)
  apply wpAny_call
  apply codeAny_of_tree
  show wpAny _ _ (callAny (.type "set") _) _ _ _
  apply wpAny_pure
  refine ⟨Code.quiet_builtin _ (by decide +kernel), codeAny_builtin F.entry_type_call ?_⟩
  rw [Around.under_plain (weight_type_call_type "set" [.ref l] []) rfl]
  repeat (any_goals (first | assumption | wp_step))
  -- the new set
  refine codeAny_mono (code_set_led1 (w := w) (.ref l) (E := E) (Q₁ := fun v t => v = .ref s.heap.objs.size ∧ t = { s with heap := s.heap.push (bareSet w) }) ⟨rfl, rfl⟩) fun r t hr => ?_
  match r, hr with
  | .error _, hr => exact hr
  | .ok .next, hr => exact hr.elim
  | .ok .brk, hr => exact hr.elim
  | .ok .cont, hr => exact hr.elim
  | .ok (.ret _), ⟨e1, e2⟩ =>
    subst e1 e2
    have at_new : (s.heap.push (bareSet w)).get? s.heap.objs.size = some (bareSet w) := Heap.get?_push_size _ rfl
    have ty_new : Shared.TypeIs { s with heap := s.heap.push (bareSet w) } (.ref s.heap.objs.size) "set" := ⟨_, at_new, rfl⟩
    have m6 := F.called_set.init.lookup
    have m7 := F.called_set.init.bind (.ref s.heap.objs.size)
    repeat (any_goals (first | assumption | wp_step))
    -- its filling
    refine codeAny_mono (codeAny_call_builtin (R := wants (fun v t => v = .none ∧ ∃ h' tk, t = { s with heap := h', toks := tk } ∧ Filled w s.heap h' ns) E) F.called_set.init.plain F.entry_set_init (check_set_init_1 ty_new ?_)) fun r2 t2 hr2 => ?_
    · obtain ⟨⟨c0, d0, x0, sl0⟩, ho, hc, n0, hx⟩ := pl
      simp only at hc hx
      subst hc hx
      have ho' : (s.heap.push (bareSet w)).get? l = some { cls := .type "list", dict := d0, data := .seq items n0, slots := sl0 } := Heap.get?_push_of_some _ ho
      have pl' : (s.heap.push (bareSet w)).IsList l items := ⟨_, ho', rfl, n0, rfl⟩
      have lt_l : l < s.heap.objs.size := Heap.lt_size ho
      have next_ : (s.heap.push (bareSet w)).objs.size = s.heap.objs.size + 1 := Heap.size_push ..
      have n1 := F.sub_list_set
      have n2 := F.sub_list_frozenset
      have n3 : (Value.type "list" == Value.type "dict") = false := by decide
      unfold Builtin.«set.__init__» noKeywords Builtin.Frozenset.updateFrom
      generalize hg : pyIter = g
      wp_walk
      subst hg
      apply wpAny_pyIter_list pl'
      refine wpAny_bind (wpAny_runValue ?_)
      have apart : l ≠ (s.heap.push (bareSet w)).objs.size := by rw [next_]; exact Nat.ne_of_lt (Nat.lt_succ_of_lt lt_l)
      refine set_update_ints ((Walks.list (by simp [hd]) _ l apart items).toS) s.heap.objs.size (fun z => ?_) ns size_eq few (fun i v hv => ?_) (items.size - 0) 0 _ rfl (Nat.zero_le _)
        ⟨⟨_, Heap.get?_push_size _ rfl, rfl, rfl⟩, pl'.push _⟩ ⟨0, Nat.le_refl _, setR_new_at (Heap.get?_push_of_some _ at_new)⟩ fun t c mv hc hS => ?_
      · rw [next_] at z
        simp only [List.mem_cons, List.not_mem_nil, or_false] at z
        rcases z with z | z
        · exact absurd z (Nat.ne_of_lt (Nat.lt_succ_self _))
        · exact absurd z (Nat.ne_of_gt lt_l)
      · have lt_i : i < ns.length := by rw [← size_eq]; exact (Array.getElem?_eq_some_iff.mp hv).1
        obtain ⟨tk, e⟩ := IntsAre.int_at pi i v (by simpa using hv)
        refine ⟨ns[i], tk, List.getElem?_eq_getElem lt_i, ?_⟩
        rw [e]
        simp [List.getD, List.getElem?_eq_getElem lt_i]
      · obtain ⟨h1, g1, d1, k1, o1⟩ := t
        obtain rfl : g1 = s.gens := mv.gens
        obtain rfl : d1 = s.drawn := mv.drawn
        obtain rfl : o1 = s.os := mv.os
        show wpAny _ _ _ _ _ _
        apply wpAny_pure
        show wpAny _ _ (ret Value.none) _ _ _
        refine wpAny_pure ⟨rfl, h1, k1, rfl, ⟨c, by omega, hS⟩, fun b o e => ?_⟩
        have lt_b : b < s.heap.objs.size := Heap.lt_size e
        refine mv.heap b o ?_ (Heap.get?_push_of_some _ (Heap.get?_push_of_some _ e))
        rw [next_]
        simp only [List.mem_cons, List.not_mem_nil, or_false, not_or]
        exact ⟨Nat.ne_of_lt lt_b, Nat.ne_of_lt (Nat.lt_succ_of_lt lt_b)⟩
    · match r2, hr2 with
      | .error _, hr2 => exact hr2
      | .ok .next, hr2 => exact hr2.elim
      | .ok .brk, hr2 => exact hr2.elim
      | .ok .cont, hr2 => exact hr2.elim
      | .ok (.ret _), ⟨e1, h1, k1, e2, fl⟩ =>
        subst e1 e2
        repeat (any_goals (first | assumption | wp_step))
        exact hQ _ _ fl
end

/-! ### enumerate(a tuple) -/
section
variable {P : Program} {w : World} {A : Around} {E : Value → Shared → Prop} {s : Shared}
set_option maxHeartbeats 2000000 in
theorem enum_new {v : Value} {o : Obj} {G : Heap → Prop} (B : Begins v o G) :
    Meets (Builtin.«enumerate.__new__» ⟨[.type "enumerate", v], []⟩) (fun _ R s => G s.heap ∧ R (.ok (.ret (.ref (s.heap.push o).objs.size)))
      { s with heap := (s.heap.push o).push { cls := .type "enumerate", data := .fields #[.none, .bool false, .ref s.heap.objs.size, rawInt 0, .none, .none] } }) := by
  refine .of_wp fun prog w A R s h => ?_
  obtain ⟨hp, g, d, tk, os⟩ := s
  obtain ⟨h1, h⟩ := h
  have sub := sub_enumerate
  have walk : ∀ {A' : Around} {E : Value → Shared → Prop} {Q : Value → Shared → Prop}, Q (.ref hp.objs.size) ⟨hp.push o, g, d, tk, os⟩ → wpAny (model prog w) A' (pyIter v) Q E ⟨hp, g, d, tk, os⟩ := fun q => B.iter prog w _ _ _ _ h1 q
  wp_walk using walk
  refine wpAny_stack_any fun st => wpAny_pure ?_
  split
  case h_1 c _ _ _ _ _ =>
    cases (c == Value.type "enumerate") <;> (wp_walk using walk; exact ⟨_, rfl, h⟩)
  case h_2 => wp_walk using walk; exact ⟨_, rfl, h⟩
theorem enum_tuple {t : Addr} {items : Array Value} {Q : Value → Shared → Prop} (ht : s.heap.IsTuple t items)
    (h : ∀ h', IsEnum h' (s.heap.objs.size + 1) s.heap.objs.size 0 .none → h'.IsTupleIter s.heap.objs.size t 0 → (∀ b o, s.heap.get? b = some o → h'.get? b = some o) → Q (.ref (s.heap.objs.size + 1)) { s with heap := h' }) :
    wpAny (model P w) A (call (.type "enumerate") [.ref t]) Q E s := by
  have B := begins_tuple t items
  refine callType_new F.called_enumerate (by decide) (F.typeCall_enumerate_1 _) (F.newCall_enumerate_1 _) (fun obj => F.args_object_init_2 obj _) F.entry_enumerate_new (enum_new B) ⟨ht, ?_⟩
  generalize hit : ({ cls := .type "tuple_iterator", data := .fields #[.ref t, .int 0 0] } : Obj) = it at B
  have sz : (s.heap.push it).objs.size = s.heap.objs.size + 1 := Heap.size_push ..
  generalize hen : ({ cls := .type "enumerate", data := .fields #[.none, .bool false, .ref s.heap.objs.size, rawInt 0, .none, .none] } : Obj) = en
  show _ ∧ _
  rw [sz]
  have at_e : ((s.heap.push it).push en).get? (s.heap.objs.size + 1) = some en := by
    have q := Heap.get?_push_size (s.heap.push it) (o := en) (by rw [← hen]; rfl)
    rw [sz] at q
    exact q
  have at_i : ((s.heap.push it).push en).get? s.heap.objs.size = some it := Heap.get?_push_of_some _ (Heap.get?_push_size _ B.free)
  refine ⟨⟨_, at_e, by rw [← hen]⟩, h _ (by subst hen; exact at_e) ⟨_, at_i, by subst hit; rfl, by subst hit; rfl⟩ fun b o x => Heap.get?_push_of_some _ (Heap.get?_push_of_some _ x)⟩
end
/-- the tuple at a, each item in a new pair with its number -/
def IteT (K : PySem.W.Frag) (a : Addr) : It where
  go := fun i H => ∃ (xs : List V) (x : V), SqT K H a xs ∧ xs[i]? = some x
  yld := fun i H v H' => ∃ T x, v = .ref T ∧ H T = none ∧ H' = upd H T (.tup [.int (i : Nat), x]) ∧ ∀ xs, SqT K H a xs → xs[i]? = some x
  stop := fun i H => ∃ xs : List V, SqT K H a xs ∧ i = xs.length
/-- the records of enumerate at turn i -/
def EnAt (a e it : Addr) (i : Nat) (h : Heap) : Prop := (∃ old, IsEnum h e it ((i : Nat) : Int) old) ∧ h.IsTupleIter it a i ∧ e ≠ it
theorem EnAt.apart {a e it : Addr} {i : Nat} {h : Heap} {items : Array Value} (n : EnAt a e it i h) (ht : h.IsTuple a items) : a ≠ it ∧ e ∉ [it, a] := by
  obtain ⟨⟨old, he⟩, ⟨oi, hi, ci, _⟩, ne⟩ := n
  obtain ⟨ot, ht, ct, _⟩ := ht
  have c1 : a ≠ it := fun z => by
    subst z
    rw [ht] at hi
    cases hi
    rw [ct] at ci
    exact absurd ci (by decide)
  have c2 : e ≠ a := fun z => by
    subst z
    have he' : h.get? e = some _ := he
    rw [ht] at he'
    cases he'
    have ct' : Value.type "enumerate" = Value.type "tuple" := ct
    exact absurd ct' (by decide)
  exact ⟨c1, by simp [ne, c2]⟩
set_option maxHeartbeats 1000000 in
theorem turn_enumT {P : Program} {w : World} {K : PySem.W.Frag} {elts : List Expr} {kk : Nat} {tpos : Pos} (a e it : Addr) : Turn P w K (.Tuple elts kk tpos) (IteT K a) [e, it] e (EnAt a e it) where
  mem := List.mem_cons_self
  obj := by
    rintro i h ⟨⟨old, he⟩, ⟨o, ho, hc, hd⟩, _⟩ b hb
    rcases List.mem_cons.mp hb with z | z
    · subst z; exact ⟨_, he, fun v q => nomatch q⟩
    · rw [List.mem_singleton.mp z]; exact ⟨o, ho, fun v q => by rw [hd] at q; cases q⟩
  keep := by
    rintro i h h' ⟨⟨old, he⟩, hi, hne⟩ k
    exact ⟨⟨old, k e (by simp) _ he⟩, hi.at fun o q => k it (by simp) o q, hne⟩
  item := by
    rintro X rfl rfl rfl hc i pins s σ H E I hf st ⟨xs, x, hq, hx⟩
    obtain ⟨its, rv, pt, _⟩ := I.tuple hq
    have ht : s.heap.IsTuple a its.toArray := pt
    obtain ⟨u, hu, ru⟩ := rv.get hx
    obtain ⟨ap1, ap2⟩ := st.apart ht
    obtain ⟨⟨old, he⟩, hit, hne⟩ := st
    have lt_e : e < s.heap.objs.size := Heap.lt_size he
    have lt_i : it < s.heap.objs.size := let ⟨_, q, _⟩ := hit; Heap.lt_size q
    have D : Draws X.prog X.w X.A.in1 it [it, a] its.toArray.size _ _ := Draws.tuple (show X.A.in1.handled = none from I.ok.hd hc) it a ap1 its.toArray
    refine wpAny_pyNext_enum_itemD D he ⟨hit, ht⟩ (by simpa using (List.getElem?_eq_some_iff.mp hu).1) hne ap2 fun y h1 tk hy ho hs1 hT hz k1 => ⟨_, rfl, ?_⟩
    have ey : y = u := by
      rw [List.getElem?_toArray, hu] at hy
      exact (Option.some.inj hy).symm
    subst ey
    refine wpAny_letOwnedTupleGo_enum (s := { s with heap := h1, toks := tk + 1 }) ho fun h2 he2 sb => ?_
    have hT2 : h2.get? s.heap.objs.size = some { cls := .type "tuple", data := .seq #[.int i tk, y] } := (sb.2 _ (Nat.ne_of_gt lt_e)).trans hT
    have new : ObjOk X.prog X.w (upd H s.heap.objs.size (.tup [.int (i : Nat), x])) h2 s.heap.objs.size (.tup [.int (i : Nat), x]) :=
      ⟨by show 2 ≤ sizeLine; decide, [.int i tk, y], .cons ⟨_, rfl⟩ (.cons ru .nil), ⟨_, hT2, rfl, _, rfl⟩⟩
    have J : Inv X pins σ (upd H s.heap.objs.size (.tup [.int (i : Nat), x])) { s with heap := h2, toks := tk + 1 } :=
      I.turnedNew (ch := [e, it]) (fun b ob hb q => by
        simp only [List.mem_cons, List.not_mem_nil, or_false, not_or] at hb
        exact (sb.2 b hb.1).trans (k1 b ob hb.1 hb.2 q)) hf (Nat.le_refl _) new
    refine ⟨.ref s.heap.objs.size, _, J, rfl, ⟨_, x, rfl, I.hok.fresh (Nat.le_refl _), rfl, fun ys hy => by rw [I.tuple_inj hy hq]; exact hx⟩, ⟨⟨y, ?_⟩, hs1.1.at fun o q => (sb.2 it (Ne.symm hne)).trans q, hne⟩, fun b hb => ?_⟩
    · rw [show ((i + 1 : Nat) : Int) = (i : Int) + 1 by omega]
      exact he2
    · have lt_b : b < s.heap.objs.size := by
        rcases List.mem_cons.mp hb with z | z
        · rw [z]; exact lt_e
        · rw [List.mem_singleton.mp z]; exact lt_i
      rw [upd_ne (Nat.ne_of_lt lt_b)]
      exact (hf b hb).1
  done := by
    rintro X rfl rfl rfl hc i pins s σ H E I hf st ⟨xs, hq, hx⟩
    obtain ⟨its, rv, pt, _⟩ := I.tuple hq
    have ht : s.heap.IsTuple a its.toArray := pt
    obtain ⟨ap1, ap2⟩ := st.apart ht
    obtain ⟨⟨old, he⟩, hit, hne⟩ := st
    obtain ⟨f0, f1, f2, f3, f4, f5⟩ := hf it (by simp)
    have D : Draws X.prog X.w X.A.in1 it [it, a] its.toArray.size _ _ := Draws.tuple (show X.A.in1.handled = none from I.ok.hd hc) it a ap1 its.toArray
    have ei : its.toArray.size = i := by rw [List.size_toArray, ← rv.length, hx]
    exact wpAny_pyNext_enum_endD D he ⟨by rw [ei]; exact hit, ht⟩ fun h' eb => ⟨rfl, I.turned (t' := s.toks) (fun b o hb q => eb b o hb q) f0 f1 f3 f4 f5⟩
  self := by
    rintro A i s Q E ⟨⟨_, he⟩, _⟩ h
    exact wpAny_pyIter_enum he h
end K12

/-! rules by readings -/
namespace K12
open PySem PySem.Spec PyProof.Rows L2
open AutoSeq1 (wpAny_loadPart')

/-! ### tuple * 0, tuple * 1 -/
theorem tup_once (l : Addr) (items : Array Value) (n : Nat) (dd : Option Addr) (sl : Array (Option Value)) (u : Tok) :
    Meets (Builtin.«tuple.__mul__» ⟨[.ref l, .int 1 u], []⟩) (fun _ R s => s.heap.get? l = some { cls := .type "tuple", dict := dd, data := .seq items n, slots := sl } ∧ R (.ok (.ret (Value.ref l))) s) := by
  refine .of_wp fun prog w A R s h => ?_
  obtain ⟨hp, g, d, tk, os⟩ := s
  obtain ⟨hl, h⟩ := h
  have f1 := AutoSeq1.idx_int
  wp_walk using wpAny_loadPart' hl
  exact ⟨_, rfl, h⟩
theorem tup_never (l : Addr) (items : Array Value) (n : Nat) (dd : Option Addr) (sl : Array (Option Value)) (u : Tok) (hne : items.isEmpty = false) :
    Meets (Builtin.«tuple.__mul__» ⟨[.ref l, .int 0 u], []⟩) (fun _ R s => s.heap.get? l = some { cls := .type "tuple", dict := dd, data := .seq items n, slots := sl } ∧
      R (.ok (.ret (Value.ref s.heap.objs.size))) { s with heap := s.heap.push { cls := .type "tuple", data := .seq #[] } }) := by
  refine .of_wp fun prog w A R s h => ?_
  obtain ⟨hp, g, d, tk, os⟩ := s
  obtain ⟨hl, h⟩ := h
  have f1 := AutoSeq1.idx_int
  wp_walk using wpAny_loadPart' hl
  exact ⟨_, rfl, h⟩

/-- a tuple with something in it, times a number from 0 on -/
def rMulT (K : PySem.W.Frag) : R2 := fun x y H Q => ∃ l k xs, x = .ref l ∧ y = .int k ∧ SqT K H l xs ∧ xs ≠ [] ∧ 0 ≤ k ∧ k ≤ 1000 ∧ xs.length ≤ 1000 ∧ (k = 1 → Q (.ref l) H) ∧
  ∀ p, H p = none → Q (.ref p) (upd H p (.tup (List.replicate k.toNat xs).flatten))
theorem op_mulT {X : Cx} : OpR X (binaryOp .Mult) (rMulT X.K) := by
  intro pins s σ H x y v u Q I rx ry h
  obtain ⟨l, k, xs, rfl, rfl, hT, hne, h0, h1, hz, q1, q⟩ := h
  by_cases c2 : 2 ≤ k
  · exact op_repT pins s σ H _ _ v u Q I rx ry ⟨l, k, xs, rfl, rfl, hT, hne, c2, h1, hz, q⟩
  cases rx
  obtain ⟨t, rfl⟩ := ry
  obtain ⟨its, r, ⟨⟨cls, dd, data, sl⟩, ho, hc, n, hd⟩, hs⟩ := I.tuple hT
  simp only at hc hd
  subst hc hd
  have no_int : ∀ s' : Shared, s'.TypeIs (Value.int k t) "int" := fun s' => typeIs_int s' k t
  have go : ∀ {R : Value → Shared → Prop}, wpAny (model X.prog X.w) X.A (call (.builtin "tuple.__mul__") [.ref l, .int k t]) R X.xe s → wpAny (model X.prog X.w) X.A (binaryOp .Mult (.ref l) (.int k t)) R X.xe s := fun hc =>
    wpAny_binaryOp_repeat_ref (T := "tuple") (U := "int") (by decide) ⟨_, ho, rfl⟩ no_int noFill_tuple_mul F.fills_int_mul F.slot_int_rmul repeat_tuple F.slot_int_index.lookup
      (call_meets F.slot_int_rmul (typeIs_int s k t) F.entry_int_rmul (F.args_int_rmul_2 _ _) (int_rmul_tuple k t l its.toArray n dd sl) ⟨ho, rfl, ⟨_, ho, rfl⟩, hc⟩)
  have ne : its.toArray.isEmpty = false := by
    cases its with
    | nil => cases r; exact absurd rfl hne
    | cons => rfl
  rcases (show k = 0 ∨ k = 1 by omega) with e | e
  · subst e
    refine go (call_meets F.slot_tuple_mul ⟨_, ho, rfl⟩ F.entry_tuple_mul (F.args_tuple_mul_2 _ _) (tup_never l its.toArray n dd sl t ne) ⟨ho, ?_⟩)
    have J := I.laid (t' := s.toks) (a := s.heap.objs.size) (o := .tup []) (fun b ob q => Heap.get?_push_of_some { cls := .type "tuple", data := .seq #[] } q) (Nat.le_refl _) ⟨Nat.zero_le _, [], .nil, IsTup.new _ _⟩
    exact ⟨.ref s.heap.objs.size, _, J, rfl, q _ (I.hok.fresh (Nat.le_refl _))⟩
  · subst e
    exact go (call_meets F.slot_tuple_mul ⟨_, ho, rfl⟩ F.entry_tuple_mul (F.args_tuple_mul_2 _ _) (tup_once l its.toArray n dd sl t) ⟨ho, .ref l, H, I, rfl, q1 rfl⟩)

/-! ### o[i] of a list, read by a place that is not negative (for o[i] op= e) -/
def rGetL (K : PySem.W.Frag) : V → V → Hp → VK → Prop := fun o i H Q => ∃ p xs k z, o = .ref p ∧ i = .int k ∧ SqL K H p xs ∧ 0 ≤ k ∧ xs[k.toNat]? = some z ∧ Q z H
theorem get_list {X : Cx} : PGet X (rGetL X.K) := by
  intro pins s σ H o i ov iv Q I ro ri h
  obtain ⟨p, xs, k, z, rfl, rfl, hq, h0, hz, q⟩ := h
  cases ro
  obtain ⟨t, rfl⟩ := ri
  obtain ⟨its, r, pl, hs⟩ := I.list hq
  obtain ⟨u, hu, ru⟩ := r.get hz
  have hlt : k.toNat < xs.length := (List.getElem?_eq_some_iff.mp hz).1
  have hn := line63
  have e : its.toArray[k.toNat]? = some u := by simpa using hu
  exact PySem.wpAny_getItem_list (x := u) pl.isList h0 (by omega) e ⟨z, H, I, ru, q⟩
theorem ip_of {X : Cx} {op : Operator} {r : R2} (h : OpR X (inplaceOp op) r) : PIp X op r := h

/-! ### set(xs), sorted(set(xs)) -/
def rSetL (w : World) (K : PySem.W.Frag) : List V → Hp → VK → Prop := fun vs H Q => ∃ (a : Addr) (ns : List Int), vs = [.ref a] ∧ SqL K H a (ns.map V.int) ∧ ns.length ≤ 4000 ∧
  ∀ (p : Addr) (c : Nat), H p = none → (∀ (lo : Int) (n : Nat), (∀ x ∈ ns, lo ≤ x ∧ x < lo + n) → c ≤ n) → Q (.ref p) (upd H p (SetO w p (fun j => decide (j ∈ ns)) c))
theorem cr_setL {X : Cx} (hc : X.calm = true) : CallR X (.type "set") (rSetL X.w X.K) := by
  intro pins s σ H vs us Q I r h
  obtain ⟨a, ns, rfl, hq, few, q⟩ := h
  rw [Vals.ref1 r]
  obtain ⟨its, rv, pl, _⟩ := I.list hq
  refine set_of_list ns (I.ok.hd hc) pl.isList (by simpa using Vals.ints rv) (by unfold scanBound; omega) fun h' tk ⟨⟨c, hc', R⟩, k⟩ => ?_
  have hn : H s.heap.objs.size = none := I.hok.fresh (Nat.le_refl _)
  refine ⟨.ref s.heap.objs.size, _, I.laid (t' := tk) (a := s.heap.objs.size) (o := SetO X.w s.heap.objs.size (fun j => decide (j ∈ ns)) c) k (Nat.le_refl _) (setO_new R), rfl, q _ c hn fun lo n hb => ?_⟩
  obtain ⟨o, es, ep, t, ho, _, _, g, nd, hm, _, _, hsz, _⟩ := R
  have e : (es.toList.map keyOf).length = c := by rw [List.length_map, Array.length_toList, hsz]
  rw [← e]
  exact nodup_few n _ lo nd fun x hx => hb x (of_decide_eq_true ((hm x).mpr hx))
def tSortSet (K : PySem.W.Frag) (te : TE) : TE := fun σ H Q => te σ H fun x H1 => ∃ (a : Addr) (ns : List Int), x = .ref a ∧ SqL K H1 a (ns.map V.int) ∧ ns.length ≤ 4000 ∧ (∃ (lo : Int) (n : Nat), n < 64 ∧ ∀ k ∈ ns, lo ≤ k ∧ k < lo + n) ∧
  ∀ (ms : List Int) (p : Addr) (H2 : Hp), ms.Pairwise (· < ·) → (∀ k : Int, k ∈ ms ↔ k ∈ ns) → Same H1 H2 → H1 p = none → H2 p = some (.lst (ms.map V.int)) → Q (.ref p) H2
/-- a reading may be weakened behind the expression -/
def tWk (te : TE) : TE := fun σ H Q => ∃ Q0 : VK, te σ H Q0 ∧ ∀ x H1, Q0 x H1 → Q x H1
theorem pe_wk {X : Cx} {e : Expr} {te : TE} (he : PE X e te) : PE X e (tWk te) := ⟨fun pins s σ H Q I ⟨Q0, h, q⟩ => thn (he.run pins s σ H Q0 I h) fun _ _ ⟨v, H1, I1, r1, q1⟩ => ⟨v, H1, I1, r1, q v H1 q1⟩⟩
theorem pe_sortset {X : Cx} {e : Expr} {te : TE} {p1 p2 p3 p4 : Pos} (hc : X.calm = true) (g1 : Gl X "sorted") (m1 : X.mg "sorted" = none) (g2 : Gl X "set") (m2 : X.mg "set" = none) (he : PE X e te)
    (s1 : starEach [e] X.env = (false, eval e X.env) :: starEach [] X.env := by rfl)
    (s2 : starEach [.Call (.Name "set" p2) [e] [] p3] X.env = (false, eval (.Call (.Name "set" p2) [e] [] p3) X.env) :: starEach [] X.env := by rfl) :
    PE X (.Call (.Name "sorted" p1) [.Call (.Name "set" p2) [e] [] p3] [] p4) (tSortSet X.K te) := by
  refine ⟨fun pins s σ H Q I h => ?_⟩
  refine (pe_callB (cr_sortedSet hc) g1 m1 (by decide +kernel) (pa_cons (pe_callTy (cr_setL hc) g2 m2 (by decide +kernel) (pa_cons (pe_wk he) pa_nil s1) (by decide) (by decide) s1 rfl) pa_nil s2) (by decide) (by decide) s2 rfl).run pins s σ H Q I ?_
  refine ⟨_, h, ?_⟩
  rintro x H1 ⟨a, ns, rfl, hq, few, ⟨lo, n, h64, hb⟩, q⟩
  refine ⟨a, ns, rfl, hq, few, fun p c np hc' => ⟨p, _, c, rfl, upd_same, Nat.lt_of_le_of_lt (hc' lo n hb) h64, fun ms p2 srt mem _ np2 => ?_⟩⟩
  have n2 : p2 ≠ p := fun z => by rw [z, upd_same] at np2; cases np2
  rw [upd_ne n2] at np2
  refine q ms p2 _ srt (fun k => by rw [mem k, decide_eq_true_eq]) (fun b o e => ?_) np2 upd_same
  rw [upd_ne (ne_of_none e np2), upd_ne (ne_of_none e np)]
  exact e

/-! ### enumerate(a tuple), walked -/
def iEnumT (K : PySem.W.Frag) (ta : TA) : TI := fun σ H R => ta σ H fun vs H1 => ∃ a xs, vs = [.ref a] ∧ SqT K H1 a xs ∧ R (IteT K a) H1
theorem pi_enumT {X : Cx} {e : Expr} {ta : TA} {p pos tpos : Pos} {elts : List Expr} {kk : Nat} (hg : Gl X "enumerate") (hm : X.mg "enumerate" = none) (ha : PA X [e] ta) (hs : starEach [e] X.env = [(false, eval e X.env)] := by rfl) :
    PI X (.Tuple elts kk tpos) (.Call (.Name "enumerate" p) [e] [] pos) (iEnumT X.K ta) := by
  refine ⟨fun pins s σ H R I h => ?_⟩
  refine Call_ (ld_blt I hg hm boot_enumerate (PyProof.Rows.callWith_type1 (thn (ha.run pos pins s σ H _ I h) fun us s1 ⟨vs, H1, I1, r1, a, xs, ex, hq, q⟩ => ?_) hs rfl))
  subst ex
  rw [Vals.ref1 r1]
  obtain ⟨its, rv, pt, _⟩ := I1.tuple hq
  refine enum_tuple (items := its.toArray) pt fun h' he hit hk => wpAny_pyIter_enum he ?_
  have J : Inv X pins σ H1 { s1 with heap := h' } := I1.kept (t' := s1.toks) hk
  refine ⟨s1.heap.objs.size + 1, [s1.heap.objs.size + 1, s1.heap.objs.size], _, _, H1, rfl, J, turn_enumT a (s1.heap.objs.size + 1) s1.heap.objs.size, ⟨⟨.none, he⟩, hit, Nat.succ_ne_self _⟩, fun b hb => ?_, q⟩
  have le_b : s1.heap.objs.size ≤ b := by
    rcases List.mem_cons.mp hb with z | z
    · rw [z]; exact Nat.le_succ _
    · rw [List.mem_singleton.mp z]; exact Nat.le_refl _
  exact I1.fpOk le_b (I1.hok.fresh le_b)
theorem walk_enumT {K : PySem.W.Frag} {a : Addr} {xs : List V} : Walk (IteT K a) xs.length (fun H => SqT K H a xs) (YPair (fun i => some (.int (i : Nat))) (fun i => xs[i]?)) := by
  refine ⟨fun i _ hi q => ⟨xs, xs[i], q, by simp [hi]⟩, fun _ q => ⟨xs, q, rfl⟩, fun i H v H' _ q y => ?_⟩
  obtain ⟨T, x, h1, h2, h3, h4⟩ := y
  exact ⟨T, .int (i : Nat), x, h1, h2, h3, rfl, h4 xs q⟩
end K12

/-! the text by places, what stands behind the top, calls -/
namespace K12
open PySem L2
def top (i : Nat) : Stmt := PySem.Challenge.pw_nearreach_k12_whole_courses_and_spreads.main.body.getD i (.Pass ⟨0, 0, 0, 0⟩)
abbrev s_inner : Stmt := top 4
abbrev s_weight : Stmt := top 5
abbrev s_init : Stmt := inClass (top 8) 0
abbrev s_lay : Stmt := inClass (top 8) 1
abbrev s_link : Stmt := inClass (top 8) 2
abbrev s_in_turn : Stmt := top 9
abbrev s_laid_row : Stmt := top 10
abbrev s_laid_either : Stmt := top 11
abbrev s_laid_many : Stmt := top 12
abbrev s_laid_times : Stmt := top 13
abbrev s_laid : Stmt := top 14
abbrev s_spread : Stmt := top 15
abbrev s_law_source : Stmt := top 17
abbrev s_law_draw : Stmt := top 18
abbrev s_law_signs : Stmt := top 19
abbrev s_law_tongue : Stmt := top 20
abbrev s_law_ones : Stmt := top 21
abbrev s_law_weight : Stmt := top 22
abbrev s_law_shape : Stmt := top 23
abbrev s_law_laid : Stmt := top 24
abbrev s_law_comes : Stmt := top 25
abbrev s_law_comes_behind : Stmt := top 26
abbrev s_law_comes_often : Stmt := top 27
abbrev s_law_course : Stmt := top 28
abbrev s_law_gone : Stmt := top 29
abbrev s_law_bent : Stmt := top 30
abbrev s_law_along : Stmt := top 31
abbrev s_law : Stmt := top 32

/-- what the walk asks of the top: the built-ins' names, the constant, the class -/
structure Txt (K : PySem.W.Frag) (mg : Str → Option Value) (C : Addr) : Prop where
  m_len : mg "len" = none
  m_abs : mg "abs" = none
  m_int : mg "int" = none
  m_sum : mg "sum" = none
  m_max : mg "max" = none
  m_range : mg "range" = none
  m_sorted : mg "sorted" = none
  m_set : mg "set" = none
  m_tuple : mg "tuple" = none
  m_enumerate : mg "enumerate" = none
  mw : ∃ t, mg "MOST_WEIGHT" = some (.int 10 t)
  cl : Cls K C
  nM : NoAttr K C "marks"
  nN : NoAttr K C "nexts"
  mgC : mg "Plan" = some (.ref C)

section
variable {P : Program} {w : World} {K : PySem.W.Frag} {mg : Str → Option Value} {base : Heap}
/-- a def that stands there, as the text has it -/
structure Def (K : PySem.W.Frag) (mg : Str → Option Value) (x : Str) (st : Stmt) (ps : List Str) (f : Addr) (fd : FuncData) : Prop where
  F : Fun K x x st f fd
  g : mg x = some (.ref f)
  b : Binds K fd ps []
/-- a def that keeps its promise by k calls, one in another -/
def Has (P : Program) (w : World) (K : PySem.W.Frag) (mg : Str → Option Value) (base : Heap) (x : Str) (k : Nat) (ps : List Str) (sp : Sp) : Prop :=
  ∃ f fd, FnOk P w K mg base CX0 k f fd ps sp ∧ mg x = some (.ref f) ∧ PySem.W.keepIn K (.ref f) = true ∧ Binds K fd ps []
theorem Def.has {x : Str} {st : Stmt} {ps : List Str} {f : Addr} {fd : FuncData} {k : Nat} {sp : Sp} (D : Def K mg x st ps f fd) (h : FnOk P w K mg base CX0 k f fd ps sp) : Has P w K mg base x k ps sp := ⟨f, fd, h, D.g, D.F.kp, D.b⟩
/-- a method of the class at C -/
def HasM (P : Program) (w : World) (K : PySem.W.Frag) (mg : Str → Option Value) (base : Heap) (C : Addr) (m : Str) (k : Nat) (ps : List Str) (sp : Sp) : Prop :=
  ∃ f fd, FnOk P w K mg base CX0 k f fd ps sp ∧ Meth K C m f ∧ Binds K fd ps []
/-- a class with its __init__ -/
def HasC (P : Program) (w : World) (K : PySem.W.Frag) (mg : Str → Option Value) (base : Heap) (C : Addr) (x : Str) (k : Nat) (ps : List Str) (sp : Sp) : Prop :=
  ∃ f fd, FnOk P w K mg base CX0 k f fd ps sp ∧ Mk K C f ∧ mg x = some (.ref C) ∧ Binds K fd ps []
end
/-- a call's reading: the arguments, then the promise -/
def tFn (sp : Sp) (t : TA) : TE := fun σ H Q => t σ H fun vs H1 => sp vs H1 Q E0
theorem tFn_eq (sp : Sp) (t : TA) : tFn sp t = tCall sp [] E0 t := by
  funext σ H Q
  unfold tFn tCall
  congr 1
  funext vs H1
  rw [List.append_nil]
section
variable {X : Cx} {x m : Str} {k : Nat} {ps : List Str} {sp : Sp} {e o : Expr} {es : List Expr} {t : TA} {ta : TE} {p pos apos : Pos} {C : Addr}
theorem pe_fn (h : Has X.prog X.w X.K X.mg X.base x k ps sp) (hr : Room k X.A) (hg : Gl X x) (ha : PA X (e :: es) t) (hdb : (x == ("__debug__" : Str)) = false := by decide)
    (he : starEach (e :: es) X.env = (false, eval e X.env) :: starEach es X.env := by rfl) (hpl : (backTo pos (starEach es X.env)).any (·.1) = false := by rfl) : PE X (.Call (.Name x p) (e :: es) [] pos) (tFn sp t) := by
  obtain ⟨f, fd, F, mg, kp, b⟩ := h
  rw [tFn_eq]
  exact pe_call F hr hg mg kp b .nil pass0 ha hdb he hpl
theorem pe_fn0 (h : Has X.prog X.w X.K X.mg X.base x k ps sp) (hr : Room k X.A) (hg : Gl X x) (hdb : (x == ("__debug__" : Str)) = false := by decide) : PE X (.Call (.Name x p) [] [] pos) (tFn sp tNil) := by
  obtain ⟨f, fd, F, mg, kp, b⟩ := h
  rw [tFn_eq]
  exact pe_call0 F hr hg mg kp b .nil pass0 hdb
/-- o.m(e, ..): the instance, then the arguments, then the promise -/
def tMt (C : Addr) (m : Str) (sp : Sp) (ta : TE) (t : TA) : TE := fun σ H Q => ta σ H fun x H1 => ∃ a dx fs, x = .ref a ∧ H1 a = some (.ins C dx fs) ∧ fs.lookup m = none ∧ t σ H1 fun vs H2 => sp (x :: vs) H2 Q E0
theorem tMt_eq (C : Addr) (m : Str) (sp : Sp) (ta : TE) (t : TA) : tMt C m sp ta t = tMeth C m sp [] E0 ta t := by
  funext σ H Q
  unfold tMt tMeth
  congr 1
  funext x H1
  simp only [List.append_nil]
theorem pe_mth {pl : Sem Bool} (h : HasM X.prog X.w X.K X.mg X.base C m k ps sp) (hr : Room k X.A) (c : Cls X.K C) (he : PE X o ta) (ha : PA X (e :: es) t)
    (hst : starEach (e :: es) X.env = (false, eval e X.env) :: starEach es X.env := by rfl) (hpl : (backTo pos (starEach es X.env)).any (·.1) = false := by rfl)
    (ht : eval (.Call (.Attribute o m apos) (e :: es) [] pos) X.env = (do
      let ov ← eval o X.env
      standAt apos.atName
      let (f, first) ← holding [ov] (getMethod ov m pl)
      callWith pos f first (backTo pos (starEach (e :: es) X.env)) (backToKw pos (keywordEach [] X.env))) := by rfl) : PE X (.Call (.Attribute o m apos) (e :: es) [] pos) (tMt C m sp ta t) := by
  obtain ⟨f, fd, F, mt, b⟩ := h
  rw [tMt_eq]
  exact pe_meth he c mt F hr b .nil pass0 ha hst hpl ht
/-- C() -/
def tMk (C : Addr) (sp : Sp) : TE := fun _ H Q => ∀ x dx, H x = none → H dx = none → dx ≠ x → sp [.ref x] (upd (upd H dx (.own x)) x (.ins C dx [])) (fun v H2 => v = .non ∧ Q (.ref x) H2) E0
theorem pe_plan (h : HasC X.prog X.w X.K X.mg X.base C x k ps sp) (hr : Room (k + 1) X.A) (hg : Gl X x) (hdb : (x == ("__debug__" : Str)) = false := by decide) : PE X (.Call (.Name x p) [] [] pos) (tMk C sp) := by
  obtain ⟨f, fd, F, M, mg, b⟩ := h
  exact pe_make0 M F hr hg mg b .nil pass0 hdb
/-- a module's number -/
theorem pe_num {i : Int} (hg : Gl X x) (hm : ∃ t, X.mg x = some (.int i t)) (hd : (x == ("__debug__" : Str)) = false := by decide) : PE X (.Name x pos) (tC (.int i)) := by
  obtain ⟨t, hm⟩ := hm
  exact pe_glob hg hm ⟨t, rfl⟩ hd
end

/-- a statement whose ways meet in Mid, then the rest -/
def tMid (t u : TS) : TS := fun D σ H => ∃ Mid : St → Hp → Prop, t { D with nx := Mid } σ H ∧ ∀ σ1 H1, Mid σ1 H1 → u D σ1 H1
theorem pss_mid {X : Cx} {st : Stmt} {rest : List Stmt} {t u : TS} (a : PS X st t) (b : PSs X rest u) : PSs X (st :: rest) (tMid t u) := by
  refine ⟨fun pins s σ H D I ⟨Mid, h1, h2⟩ => ?_⟩
  have go := a.run pins s σ H { D with nx := Mid } I h1
  refine wpAny_execs_cons (thn go fun f s1 q => ?_)
  match f, q with
  | .next, ⟨σ1, H1, J, m⟩ => exact b.run pins s1 σ1 H1 D J (h2 σ1 H1 m)
  | .ret _, q => exact q
  | .brk, q => exact q
  | .cont, q => exact q

/-- a test's reading may be weakened behind it -/
def tWkT (t : TT) : TT := fun σ H Q => ∃ Q0 : Bool → Hp → Prop, t σ H Q0 ∧ ∀ b H1, Q0 b H1 → Q b H1
theorem pt_wk {X : Cx} {c : Expr} {t : TT} (h : PT X c t) : PT X c (tWkT t) := ⟨fun pins s σ H Q I ⟨Q0, a, b⟩ => thn (h.run pins s σ H Q0 I a) fun _ _ ⟨H1, J, q⟩ => ⟨H1, J, b _ _ q⟩⟩

/-! ### what stays as it was -/
/-- all but S is as it was, nothing is gone -/
structure Keep (S : Addr → Prop) (H H' : Hp) : Prop where
  kp : ∀ b o, H b = some o → ¬ S b → H' b = some o
  ex : ∀ b, H b ≠ none → H' b ≠ none
theorem Keep.of_same {S : Addr → Prop} {H H' : Hp} (h : Same H H') : Keep S H H' := ⟨fun b o e _ => h b o e, fun b e z => by
  cases q : H b with
  | none => exact e q
  | some o => rw [h b o q] at z; cases z⟩
theorem Keep.refl {S : Addr → Prop} (H : Hp) : Keep S H H := .of_same (Same.refl H)
theorem Keep.same {H H' : Hp} (h : Keep (fun _ => False) H H') : Same H H' := fun b o e => h.kp b o e fun z => z
theorem Keep.trans {S S' : Addr → Prop} {H H1 H2 : Hp} (a : Keep S H H1) (b : Keep S' H1 H2) (h : ∀ c, H c ≠ none → S' c → S c) : Keep S H H2 :=
  ⟨fun c o e n => b.kp c o (a.kp c o e n) fun z => n (h c (by rw [e]; exact fun q => nomatch q) z), fun c e => b.ex c (a.ex c e)⟩
theorem Keep.mono {S S' : Addr → Prop} {H H' : Hp} (a : Keep S H H') (h : ∀ c, S c → S' c) : Keep S' H H' := ⟨fun c o e n => a.kp c o e fun z => n (h c z), a.ex⟩
theorem Keep.new {S : Addr → Prop} {H : Hp} {p : Addr} {o : HO} (h : H p = none) : Keep S H (upd H p o) := .of_same fun b u q => by rw [upd_ne (ne_of_none q h)]; exact q
theorem Keep.put {S : Addr → Prop} {H : Hp} {p : Addr} {o : HO} (h : S p) : Keep S H (upd H p o) := ⟨fun b u q n => by
  have e : b ≠ p := fun z => n (z ▸ h)
  rw [upd_ne e]; exact q, fun b q z => by
  by_cases e : b = p
  · rw [e, upd_same] at z; cases z
  · rw [upd_ne e] at z; exact q z⟩
theorem same_new {H : Hp} {p : Addr} {o : HO} (h : H p = none) : Same H (upd H p o) := fun b u q => by rw [upd_ne (ne_of_none q h)]; exact q
theorem some_ne {H : Hp} {a : Addr} {o : HO} (h : H a = some o) : H a ≠ none := by rw [h]; exact fun q => nomatch q

/-- tuples stay -/
def KT (K : PySem.W.Frag) (H H' : Hp) : Prop := ∀ a xs, SqT K H a xs → SqT K H' a xs
theorem KT.refl {K : PySem.W.Frag} (H : Hp) : KT K H H := fun _ _ h => h
theorem KT.trans {K : PySem.W.Frag} {H H1 H2 : Hp} (a : KT K H H1) (b : KT K H1 H2) : KT K H H2 := fun c xs h => b c xs (a c xs h)
/-- S are lists -/
def Lists (H : Hp) (S : Addr → Prop) : Prop := ∀ b, S b → H b = none ∨ ∃ xs, H b = some (.lst xs)
theorem Keep.kt {K : PySem.W.Frag} {S : Addr → Prop} {H H' : Hp} (a : Keep S H H') (h : Lists H S) : KT K H H' := fun b xs q => by
  rcases q with (q | ⟨o, q⟩) | q
  · refine .inl (.inl (a.kp b _ q fun z => ?_))
    rcases h b z with r | ⟨ys, r⟩ <;> (rw [q] at r; cases r)
  · refine .inl (.inr ⟨o, a.kp b _ q fun z => ?_⟩)
    rcases h b z with r | ⟨ys, r⟩ <;> (rw [q] at r; cases r)
  · exact .inr q
theorem _root_.L2.Same.kt {K : PySem.W.Frag} {H H' : Hp} (h : Same H H') : KT K H H' := (Keep.of_same (S := fun _ => False) h).kt fun _ z => z.elim

/-! ### shapes as they stand in memory -/
mutual
def At (K : PySem.W.Frag) (H : Hp) : Sh → V → Prop
  | .one, v => ∃ p z, v = .ref p ∧ SqT K H p [.str "one", .str z]
  | .row ps, v => ∃ p q vs, v = .ref p ∧ SqT K H p [.str "row", .ref q] ∧ SqT K H q vs ∧ Ats K H ps vs
  | .either ps, v => ∃ p q vs, v = .ref p ∧ SqT K H p [.str "either", .ref q] ∧ SqT K H q vs ∧ Ats K H ps vs
  | .many s, v => ∃ p u, v = .ref p ∧ SqT K H p [.str "many", u] ∧ At K H s u
  | .times s lo hi, v => ∃ p u, v = .ref p ∧ SqT K H p [.str "times", u, .int lo, .int hi] ∧ At K H s u
def Ats (K : PySem.W.Frag) (H : Hp) : List Sh → List V → Prop
  | [], vs => vs = []
  | s :: ss, vs => ∃ v r, vs = v :: r ∧ At K H s v ∧ Ats K H ss r
end
mutual
theorem At.mono {K : PySem.W.Frag} {H H' : Hp} (k : KT K H H') : ∀ (s : Sh) (v : V), At K H s v → At K H' s v
  | .one, v, h => by
    unfold At at h ⊢
    obtain ⟨p, z, e, t⟩ := h
    exact ⟨p, z, e, k _ _ t⟩
  | .row ps, v, h => by
    unfold At at h ⊢
    obtain ⟨p, q, vs, e, t, u, a⟩ := h
    exact ⟨p, q, vs, e, k _ _ t, k _ _ u, Ats.mono k ps vs a⟩
  | .either ps, v, h => by
    unfold At at h ⊢
    obtain ⟨p, q, vs, e, t, u, a⟩ := h
    exact ⟨p, q, vs, e, k _ _ t, k _ _ u, Ats.mono k ps vs a⟩
  | .many s, v, h => by
    unfold At at h ⊢
    obtain ⟨p, u, e, t, a⟩ := h
    exact ⟨p, u, e, k _ _ t, At.mono k s u a⟩
  | .times s lo hi, v, h => by
    unfold At at h ⊢
    obtain ⟨p, u, e, t, a⟩ := h
    exact ⟨p, u, e, k _ _ t, At.mono k s u a⟩
theorem Ats.mono {K : PySem.W.Frag} {H H' : Hp} (k : KT K H H') : ∀ (ss : List Sh) (vs : List V), Ats K H ss vs → Ats K H' ss vs
  | [], vs, h => by unfold Ats at h ⊢; exact h
  | s :: ss, vs, h => by
    unfold Ats at h ⊢
    obtain ⟨v, r, e, a, b⟩ := h
    exact ⟨v, r, e, At.mono k s v a, Ats.mono k ss r b⟩
end
theorem Ats.length {K : PySem.W.Frag} {H : Hp} : ∀ {ss : List Sh} {vs : List V}, Ats K H ss vs → vs.length = ss.length
  | [], vs, h => by unfold Ats at h; rw [h]; rfl
  | s :: ss, vs, h => by
    unfold Ats at h
    obtain ⟨v, r, rfl, _, b⟩ := h
    rw [List.length_cons, List.length_cons, Ats.length b]
theorem Ats.get {K : PySem.W.Frag} {H : Hp} : ∀ {ss : List Sh} {vs : List V} {i : Nat} {v : V}, Ats K H ss vs → vs[i]? = some v → ∃ s, ss[i]? = some s ∧ At K H s v
  | [], vs, i, v, h, e => by unfold Ats at h; rw [h] at e; simp at e
  | s :: ss, vs, i, v, h, e => by
    unfold Ats at h
    obtain ⟨u, r, rfl, a, b⟩ := h
    cases i with
    | zero =>
      have e' : u = v := by simpa using e
      subst e'
      exact ⟨s, rfl, a⟩
    | succ i =>
      obtain ⟨s', e1, a'⟩ := Ats.get (i := i) b (by simpa using e)
      exact ⟨s', by simpa using e1, a'⟩
theorem Ats.snoc {K : PySem.W.Frag} {H : Hp} {s : Sh} {v : V} (a : At K H s v) : ∀ {ss : List Sh} {vs : List V}, Ats K H ss vs → Ats K H (ss ++ [s]) (vs ++ [v])
  | [], vs, h => by
    unfold Ats at h
    subst h
    show Ats K H [s] [v]
    unfold Ats
    exact ⟨v, [], rfl, a, by unfold Ats; rfl⟩
  | t :: ss, vs, h => by
    unfold Ats at h
    obtain ⟨u, r, rfl, b, c⟩ := h
    show Ats K H (t :: (ss ++ [s])) (u :: (r ++ [v]))
    rw [Ats]
    exact ⟨u, r ++ [v], rfl, b, Ats.snoc a c⟩
theorem Ats.rep {K : PySem.W.Frag} {H : Hp} {s : Sh} {v : V} (a : At K H s v) : ∀ n : Nat, Ats K H (List.replicate n s) (List.replicate n v)
  | 0 => by unfold Ats; rfl
  | n + 1 => by
    rw [List.replicate_succ, List.replicate_succ, Ats]
    exact ⟨v, _, rfl, a, Ats.rep a n⟩
/-- the first item of a shape -/
def tag : Sh → Str
  | .one => "one"
  | .row _ => "row"
  | .either _ => "either"
  | .many _ => "many"
  | .times _ _ _ => "times"
theorem At.tag {K : PySem.W.Frag} {H : Hp} : ∀ {s : Sh} {v : V}, At K H s v → ∃ p r, v = .ref p ∧ SqT K H p (.str (tag s) :: r)
  | .one, v, h => by unfold At at h; obtain ⟨p, z, e, t⟩ := h; exact ⟨p, _, e, t⟩
  | .row ps, v, h => by unfold At at h; obtain ⟨p, q, vs, e, t, _⟩ := h; exact ⟨p, _, e, t⟩
  | .either ps, v, h => by unfold At at h; obtain ⟨p, q, vs, e, t, _⟩ := h; exact ⟨p, _, e, t⟩
  | .many s, v, h => by unfold At at h; obtain ⟨p, u, e, t, _⟩ := h; exact ⟨p, _, e, t⟩
  | .times s lo hi, v, h => by unfold At at h; obtain ⟨p, u, e, t, _⟩ := h; exact ⟨p, _, e, t⟩
theorem dep_pos : ∀ s : Sh, 1 ≤ dep s
  | .one => by simp [dep]
  | .row _ => by simp [dep]
  | .either _ => by simp [dep]
  | .many _ => by simp [dep]
  | .times _ _ _ => by simp [dep]
theorem fits {n : Nat} (h : n ≤ 10000) : n ≤ sizeLine := Nat.le_trans h (by decide)
theorem fits' {n : Nat} (h : n ≤ 10000) : n < sizeLine := Nat.lt_of_le_of_lt h (by decide)
end K12

/-! shapes read: inner, weight, _law_weight, _law_laid -/
namespace K12
open PySem L2
/-! ### which shape it is, by its first item -/
theorem tag_one : ∀ {s : Sh}, tag s = "one" → s = .one
  | .one, _ => rfl
  | .row _, h => absurd (show ("row" : Str) = "one" from h) (by decide +kernel)
  | .either _, h => absurd (show ("either" : Str) = "one" from h) (by decide +kernel)
  | .many _, h => absurd (show ("many" : Str) = "one" from h) (by decide +kernel)
  | .times _ _ _, h => absurd (show ("times" : Str) = "one" from h) (by decide +kernel)
theorem tag_row : ∀ {s : Sh}, tag s = "row" → ∃ ps, s = .row ps
  | .one, h => absurd (show ("one" : Str) = "row" from h) (by decide +kernel)
  | .row ps, h => ⟨ps, rfl⟩
  | .either _, h => absurd (show ("either" : Str) = "row" from h) (by decide +kernel)
  | .many _, h => absurd (show ("many" : Str) = "row" from h) (by decide +kernel)
  | .times _ _ _, h => absurd (show ("times" : Str) = "row" from h) (by decide +kernel)
theorem tag_either : ∀ {s : Sh}, tag s = "either" → ∃ ps, s = .either ps
  | .one, h => absurd (show ("one" : Str) = "either" from h) (by decide +kernel)
  | .row _, h => absurd (show ("row" : Str) = "either" from h) (by decide +kernel)
  | .either ps, h => ⟨ps, rfl⟩
  | .many _, h => absurd (show ("many" : Str) = "either" from h) (by decide +kernel)
  | .times _ _ _, h => absurd (show ("times" : Str) = "either" from h) (by decide +kernel)
theorem tag_many : ∀ {s : Sh}, tag s = "many" → ∃ p, s = .many p
  | .one, h => absurd (show ("one" : Str) = "many" from h) (by decide +kernel)
  | .row _, h => absurd (show ("row" : Str) = "many" from h) (by decide +kernel)
  | .either _, h => absurd (show ("either" : Str) = "many" from h) (by decide +kernel)
  | .many p, h => ⟨p, rfl⟩
  | .times _ _ _, h => absurd (show ("times" : Str) = "many" from h) (by decide +kernel)
theorem tag_times : ∀ {s : Sh}, tag s = "times" → ∃ p lo hi, s = .times p lo hi
  | .one, h => absurd (show ("one" : Str) = "times" from h) (by decide +kernel)
  | .row _, h => absurd (show ("row" : Str) = "times" from h) (by decide +kernel)
  | .either _, h => absurd (show ("either" : Str) = "times" from h) (by decide +kernel)
  | .many _, h => absurd (show ("many" : Str) = "times" from h) (by decide +kernel)
  | .times p lo hi, h => ⟨p, lo, hi, rfl⟩
/-- an if by the first item -/
theorem if_tag {s : Sh} {x : Str} {A B : Prop} (h1 : tag s = x → A) (h2 : ¬ tag s = x → B) : if decide (V.str (tag s) = V.str x) = true then A else B :=
  ite2 (fun c => h1 (V.str.inj (of_decide_eq_true c))) (fun c => h2 fun e => c (decide_eq_true (by rw [e])))
theorem if_ntag {s : Sh} {x : Str} {A B : Prop} (h1 : ¬ tag s = x → A) (h2 : tag s = x → B) : if (!decide (V.str (tag s) = V.str x)) = true then A else B :=
  ite2 (fun c => h1 fun e => by rw [e, decide_eq_true rfl] at c; cases c) (fun c => h2 (by
    cases e : decide (V.str (tag s) = V.str x) with
    | true => exact V.str.inj (of_decide_eq_true e)
    | false => rw [e] at c; exact absurd rfl c))
theorem if_two {s : Sh} {A B : Prop} (h1 : tag s = "row" ∨ tag s = "either" → A) (h2 : ¬ tag s = "row" → ¬ tag s = "either" → B) : if inV (V.str (tag s)) [V.str "row", V.str "either"] = true then A else B := by
  have e : inV (V.str (tag s)) [V.str "row", V.str "either"] = true ↔ tag s = "row" ∨ tag s = "either" := by
    simp only [inV, List.any_cons, List.any_nil, Bool.or_false, Bool.or_eq_true, eqV]
    constructor
    · rintro (h | h)
      · exact .inl (show "row" = tag s by simpa using h).symm
      · exact .inr (show "either" = tag s by simpa using h).symm
    · rintro (h | h)
      · exact .inl (by simpa using h.symm)
      · exact .inr (by simpa using h.symm)
  exact ite2 (fun c => h1 (e.mp c)) (fun c => h2 (fun z => c (e.mpr (.inl z))) (fun z => c (e.mpr (.inr z))))

theorem at0 {x : V} {r : List V} : atI (x :: r) 0 = some x := atI_nat (j := 0) rfl
theorem at1 {x y : V} {r : List V} : atI (x :: y :: r) 1 = some y := atI_nat (j := 1) rfl
theorem at2 {x y z : V} {r : List V} : atI (x :: y :: z :: r) 2 = some z := atI_nat (j := 2) rfl
theorem at3 {x y z u : V} {r : List V} : atI (x :: y :: z :: u :: r) 3 = some u := atI_nat (j := 3) rfl
/-- the shapes straight within -/
def kids : Sh → List Sh
  | .one => []
  | .row ps => ps
  | .either ps => ps
  | .many p => [p]
  | .times p _ _ => [p]
section
variable {P : Program} {w : World} {K : PySem.W.Frag} {mg : Str → Option Value} {base : Heap} {C : Addr}
def spInner (K : PySem.W.Frag) : Sp := fun vs H Q _ => ∃ v s, vs = [v] ∧ At K H s v ∧ ∀ (p : Addr) (us : List V) (H' : Hp), Same H H' → SqT K H' p us → Ats K H' (kids s) us → Q (.ref p) H'
theorem sc_inner : FnScope ["shape"] ["shape"] (defScope s_inner) := ⟨rfl, rfl, rfl, by decide +kernel, rfl, by decide +kernel, by decide +kernel⟩
theorem ok_inner {f : Addr} {fd : FuncData} (D : Def K mg "inner" s_inner ["shape"] f fd) : Has P w K mg base "inner" 1 ["shape"] (spInner K) := by
  refine D.has (D.F.ok sc_inner (fun vs H Q E h => ?_) (fun cdv A outer s H vs Q E hr h => ?_))
  · obtain ⟨v, s, rfl, _⟩ := h
    rfl
  obtain ⟨v, s, rfl, a, q⟩ := h
  have nd := sc_inner.nd
  refine ⟨_, (pss_cons (ps_if (pt_cmpR op_eq (pe_ix ix_tup (pv 0) pe_int (fun _ _ => rfl)) pe_str (nomark _)) (pss_one (ps_ret (pe_tup pa_nil))) pss_nil)
      (pss_cons (ps_if (pt_cmpR op_in_seq (pe_ix ix_tup (pv 0) pe_int (fun _ _ => rfl)) (pe_tup (pa_cons pe_str (pa_cons pe_str pa_nil))) rfl) (pss_one (ps_ret (pe_ix ix_tup (pv 0) pe_int (fun _ _ => rfl)))) pss_nil)
      (pss_one (ps_ret (pe_tup (pa_cons (pe_ix ix_tup (pv 0) pe_int (fun _ _ => rfl)) pa_nil)))))), ?_⟩
  obtain ⟨p, r, rfl, t⟩ := a.tag
  refine ⟨_, rfl, p, _, _, _, rfl, rfl, t, at0, rfl, _, rfl, if_tag (fun c => ?_) (fun c1 => ?_)⟩
  · obtain rfl := tag_one c
    refine ⟨Nat.zero_le _, fun p np => q p [] _ (same_new np) (SqT.of upd_same) (by unfold kids Ats; rfl)⟩
  refine ⟨_, rfl, p, _, _, _, rfl, rfl, t, at0, fits (by decide), fun p2 np2 => ⟨p2, _, rfl, .inr (SqT.of upd_same), rfl, rfl, _, rfl, if_two (fun c => ?_) (fun c2 c3 => ?_)⟩⟩
  · have k2 := same_new (o := .tup [V.str "row", V.str "either"]) np2
    rcases c with c | c
    · obtain ⟨ps, rfl⟩ := tag_row c
      unfold At at a
      obtain ⟨p', pq, us, e, t1, t2, a⟩ := a
      obtain rfl := V.ref.inj e
      exact ⟨_, rfl, p, _, _, _, rfl, rfl, k2.kt _ _ t1, at1, q pq us _ k2 (k2.kt _ _ t2) (Ats.mono k2.kt _ _ a)⟩
    · obtain ⟨ps, rfl⟩ := tag_either c
      unfold At at a
      obtain ⟨p', pq, us, e, t1, t2, a⟩ := a
      obtain rfl := V.ref.inj e
      exact ⟨_, rfl, p, _, _, _, rfl, rfl, k2.kt _ _ t1, at1, q pq us _ k2 (k2.kt _ _ t2) (Ats.mono k2.kt _ _ a)⟩
  · have k2 := same_new (o := .tup [V.str "row", V.str "either"]) np2
    have last : ∀ (u : V) (r : List V) (s' : Sh), kids s = [s'] → SqT K H p (V.str (tag s) :: u :: r) → At K H s' u → tRet (tTup (tCons (tOp (rIxT K) (tVar 0) (tC (V.int 1))) tNil)) { nx := fun _ H' => Q .non H', rt := Q } (start ["shape"] [V.ref p]) (upd H p2 (.tup [V.str "row", V.str "either"])) := by
      intro u r s' ek t1 a1
      refine ⟨_, rfl, p, _, _, _, rfl, rfl, k2.kt _ _ t1, at1, (by show 1 ≤ sizeLine; decide), fun p3 np3 => q p3 [u] _ (k2.trans (same_new np3)) (SqT.of upd_same) ?_⟩
      rw [ek, Ats]
      exact ⟨u, [], rfl, At.mono (k2.trans (same_new np3)).kt _ _ a1, by unfold Ats; rfl⟩
    cases s with
    | one => exact absurd rfl c1
    | row ps => exact absurd rfl c2
    | either ps => exact absurd rfl c3
    | many s' =>
      unfold At at a
      obtain ⟨p', u, e, t1, a1⟩ := a
      obtain rfl := V.ref.inj e
      exact last u _ s' rfl t1 a1
    | times s' lo hi =>
      unfold At at a
      obtain ⟨p', u, e, t1, a1⟩ := a
      obtain rfl := V.ref.inj e
      exact last u _ s' rfl t1 a1
/-- what weight and _law_weight promise, for shapes at most d deep -/
def spWeight (K : PySem.W.Frag) (d : Nat) : Sp := fun vs H Q _ => ∃ v s, vs = [v] ∧ At K H s v ∧ wf s ∧ dep s ≤ d ∧ ∀ H' : Hp, Same H H' → Q (.int (wt s)) H'
theorem vac {x : Str} {st : Stmt} {ps : List Str} {f : Addr} {fd : FuncData} {k : Nat} {sp : Sp} (D : Def K mg x st ps f fd) (no : ∀ vs H Q E, ¬ sp vs H Q E) : Has P w K mg base x k ps sp :=
  D.has ⟨fun vs H Q E h => absurd h (no vs H Q E), fun A outer s H args us vs Q E _ _ _ _ h => absurd h (no vs H Q E)⟩
theorem sum_wts : ∀ ps : List Sh, (ps.map fun p => (wt p : Int)).sum = (wts ps : Int)
  | [] => rfl
  | p :: ps => by rw [List.map_cons, List.sum_cons, sum_wts ps, wts]; omega
theorem kids_dep : ∀ {s p : Sh}, p ∈ kids s → dep p + 1 ≤ dep s
  | .one, p, h => by cases h
  | .row ps, p, h => by have := deps_mem (ps := ps) h; simp only [dep]; omega
  | .either ps, p, h => by have := deps_mem (ps := ps) h; simp only [dep]; omega
  | .many s, p, h => by rw [List.mem_singleton.mp h]; simp only [dep]; omega
  | .times s _ _, p, h => by rw [List.mem_singleton.mp h]; simp only [dep]; omega
theorem kids_wf : ∀ {s p : Sh}, wf s → p ∈ kids s → wf p
  | .one, p, _, h => by cases h
  | .row ps, p, w, h => by simp only [wf] at w; exact wfs_mem.mp w.2 p h
  | .either ps, p, w, h => by simp only [wf] at w; exact wfs_mem.mp w.2.2 p h
  | .many s, p, w, h => by rw [List.mem_singleton.mp h]; simpa only [wf] using w
  | .times s _ _, p, w, h => by rw [List.mem_singleton.mp h]; simp only [wf] at w; exact w.2.2
theorem kids_few : ∀ {s : Sh}, wf s → (kids s).length ≤ 6
  | .one, _ => Nat.zero_le _
  | .row ps, w => by simp only [wf] at w; exact w.1
  | .either ps, w => by simp only [wf] at w; exact w.2.1
  | .many s, w => by show 1 ≤ 6; omega
  | .times s _ _, w => by show 1 ≤ 6; omega
theorem ints_take {xs : List Int} {D : Addr} {H : Hp} {i : Nat} {z : Int} (h : xs[i]? = some z) (e : H D = some (.lst ((xs.take i).map V.int))) : ∃ acc, H D = some (.lst acc) ∧ (i ≤ 10000 → acc.length < sizeLine) ∧ acc ++ [V.int z] = (xs.take (i + 1)).map V.int := by
  refine ⟨_, e, fun hi => ?_, ?_⟩
  · rw [List.length_map]
    exact fits' (Nat.le_trans (List.length_take_le _ _) hi)
  · rw [List.take_add_one, h]; simp
/-- a list of weights that is summed: the shared part of weight and _law_weight -/
theorem sum_turn {H' H : Hp} {D : Addr} {ps : List Sh} {us : List V} {i : Nat} {x : V} (a : Ats K H' ps us) (same : Same H' H) (hx : us[i]? = some x) : ∃ s', ps[i]? = some s' ∧ s' ∈ ps ∧ At K H s' x := by
  obtain ⟨s', e, a'⟩ := a.get hx
  exact ⟨s', e, List.mem_of_getElem? e, At.mono same.kt _ _ a'⟩
theorem sc_weight : FnScope ["shape", "found", "part"] ["shape"] (defScope s_weight) := ⟨rfl, rfl, rfl, by decide +kernel, rfl, by decide +kernel, by decide +kernel⟩
theorem ok_weight {f : Addr} {fd : FuncData} {d : Nat} (D : Def K mg "weight" s_weight ["shape"] f fd) (T : Txt K mg C) (G_inner : Has P w K mg base "inner" 1 ["shape"] (spInner K)) (G_weight : Has P w K mg base "weight" (d + 1) ["shape"] (spWeight K d)) :
    Has P w K mg base "weight" (d + 2) ["shape"] (spWeight K (d + 1)) := by
  refine D.has (D.F.ok sc_weight (fun vs H Q E h => ?_) (fun cdv A outer s H vs Q E hr h => ?_))
  · obtain ⟨v, s, rfl, _⟩ := h
    rfl
  obtain ⟨v, s, rfl, a, w1, dp, q⟩ := h
  have nd := sc_weight.nd
  refine ⟨_, (pss_cons (ps_if (pt_cmpR op_eq (pe_ix ix_tup (pv 0) pe_int (fun _ _ => rfl)) pe_str (nomark _)) (pss_one (ps_ret pe_int)) pss_nil)
      (pss_cons (ps_set (i := 1) nd rfl (Or.inl rfl) (pe_callB (cr_sum rfl) (by rfl) T.m_sum (by decide +kernel) (pa_cons (pe_lc (own := [("part", 2)]) (g := gName 2) (tt := tYes) rfl nd (pi_tup (pe_fn G_inner (hr.mono (by omega)) rfl (pa_cons (pv 0) pa_nil))) (blkOk_by (own := [("part", 2)]) (N := ["shape", "found", "part"]) (sc := defScope s_weight) (by decide +kernel)) (fun _ _ _ _ _ => pg_name (i := 2) nd rfl (Or.inl rfl)) (fun _ _ _ _ _ => pts_nil) (fun _ _ _ _ _ => (pe_fn G_weight (hr.mono (by omega)) rfl (pa_cons (pv 2) pa_nil)))) pa_nil)))
      (pss_cons (ps_if (pt_cmpR op_eq (pe_ix ix_tup (pv 0) pe_int (fun _ _ => rfl)) pe_str (nomark _)) (pss_one (ps_ret (pe_op op_mul (pe_ix ix_tup (pv 0) pe_int (fun _ _ => rfl)) (pv 1)))) pss_nil)
      (pss_one (ps_ret (pv 1)))))), ?_⟩
  obtain ⟨p, r, rfl, t⟩ := a.tag
  refine ⟨_, rfl, p, _, _, _, rfl, rfl, t, at0, rfl, _, rfl, if_tag (fun c => ?_) (fun c1 => ?_)⟩
  · obtain rfl := tag_one c
    exact q H (Same.refl H)
  refine ⟨_, rfl, _, s, rfl, a, fun pk us H1 sm1 tk ak => ⟨pk, rfl, ⟨_, tk⟩, fun Dl nD => lc_tup (K := K) (a := pk) (xs := us) (fun i H2 => Same H1 H2 ∧ H2 Dl = some (.lst ((((kids s).map fun p => (wt p : Int)).take i).map V.int))) ?_ ?_ ?_ ?_⟩⟩
  · exact ⟨same_new nD, upd_same⟩
  · exact fun i H2 _ h => h.1.kt _ _ tk
  · rintro i x H2 hx ⟨sm2, eD⟩
    obtain ⟨s', es, ms, a'⟩ := sum_turn (D := Dl) ak sm2 hx
    have hi : i < (kids s).length := (List.getElem?_eq_some_iff.mp es).1
    have few := kids_few w1
    refine ⟨rfl, ?_⟩
    refine ⟨_, rfl, x, s', rfl, a', kids_wf w1 ms, by have := kids_dep ms; omega, fun H3 sm3 => ?_⟩
    obtain ⟨acc, e1, e2, e3⟩ := ints_take (xs := (kids s).map fun p => (wt p : Int)) (z := wt s') (by rw [List.getElem?_map, es]; rfl) (sm3 _ _ eD)
    refine ⟨acc, e1, e2 (by omega), fun b o e => ?_, by rw [upd_same, e3]⟩
    have hb : b ≠ Dl := ne_of_none e nD
    rw [upd_ne hb]
    exact sm3 _ _ (sm2 _ _ e)
  rintro H2 ⟨sm2, eD⟩
  have el : ((kids s).map fun p => (wt p : Int)).take us.length = (kids s).map fun p => (wt p : Int) := List.take_of_length_le (by rw [List.length_map, ak.length]; exact Nat.le_refl _)
  rw [el] at eD
  have sm : Same H H2 := sm1.trans sm2
  refine ⟨Dl, _, rfl, SqL.of eD, ?_⟩
  rw [sum_wts]
  refine ⟨_, rfl, p, _, _, _, rfl, rfl, sm.kt _ _ t, at0, rfl, _, rfl, if_tag (fun c => ?_) (fun c2 => ?_)⟩
  · obtain ⟨s', lo, hi, rfl⟩ := tag_times c
    unfold At at a
    obtain ⟨p', u, e, t1, a1⟩ := a
    obtain rfl := V.ref.inj e
    simp only [wf] at w1
    refine ⟨_, rfl, p, _, _, _, rfl, rfl, sm.kt _ _ t1, at3, _, rfl, _, _, rfl, rfl, .inl ⟨by omega, by omega⟩, ?_⟩
    have e : (hi : Int) * ((wts (kids (.times s' lo hi)) : Nat) : Int) = ((wt (.times s' lo hi) : Nat) : Int) := by
      simp only [kids, wts, wt, Nat.add_zero]; omega
    have q' := q H2 sm
    rw [← e] at q'
    exact q'
  · have e : wts (kids s) = wt s := by
      cases s with
      | one => exact absurd rfl c1
      | row ps => simp only [kids, wt]
      | either ps => simp only [kids, wt]
      | many s' => simp only [kids, wts, wt, Nat.add_zero]
      | times => exact absurd rfl c2
    rw [e]
    exact ⟨_, rfl, q H2 sm⟩
theorem sc_law_weight : FnScope ["_law_shape_here", "_law_part"] ["_law_shape_here"] (defScope s_law_weight) := ⟨rfl, rfl, rfl, by decide +kernel, rfl, by decide +kernel, by decide +kernel⟩
theorem ok_law_weight {f : Addr} {fd : FuncData} {d : Nat} (D : Def K mg "_law_weight" s_law_weight ["_law_shape_here"] f fd) (T : Txt K mg C) (G_law_weight : Has P w K mg base "_law_weight" (d + 1) ["_law_shape_here"] (spWeight K d)) :
    Has P w K mg base "_law_weight" (d + 2) ["_law_shape_here"] (spWeight K (d + 1)) := by
  refine D.has (D.F.ok sc_law_weight (fun vs H Q E h => ?_) (fun cdv A outer s H vs Q E hr h => ?_))
  · obtain ⟨v, s, rfl, _⟩ := h
    rfl
  obtain ⟨v, s, rfl, a, w1, dp, q⟩ := h
  have nd := sc_law_weight.nd
  refine ⟨_, (pss_cons (ps_if (pt_cmpR op_eq (pe_ix ix_tup (pv 0) pe_int (fun _ _ => rfl)) pe_str (nomark _)) (pss_one (ps_ret pe_int)) pss_nil)
      (pss_cons (ps_if (pt_cmpR op_in_seq (pe_ix ix_tup (pv 0) pe_int (fun _ _ => rfl)) (pe_tup (pa_cons pe_str (pa_cons pe_str pa_nil))) rfl) (pss_one (ps_ret (pe_callB (cr_sum rfl) (by rfl) T.m_sum (by decide +kernel) (pa_cons (pe_lc (own := [("_law_part", 1)]) (g := gName 1) (tt := tYes) rfl nd (pi_tup (pe_ix ix_tup (pv 0) pe_int (fun _ _ => rfl))) (blkOk_by (own := [("_law_part", 1)]) (N := ["_law_shape_here", "_law_part"]) (sc := defScope s_law_weight) (by decide +kernel)) (fun _ _ _ _ _ => pg_name (i := 1) nd rfl (Or.inl rfl)) (fun _ _ _ _ _ => pts_nil) (fun _ _ _ _ _ => (pe_fn G_law_weight (hr.mono (by omega)) rfl (pa_cons (pv 1) pa_nil)))) pa_nil)))) pss_nil)
      (pss_cons (ps_if (pt_cmpR op_eq (pe_ix ix_tup (pv 0) pe_int (fun _ _ => rfl)) pe_str (nomark _)) (pss_one (ps_ret (pe_fn G_law_weight (hr.mono (by omega)) rfl (pa_cons (pe_ix ix_tup (pv 0) pe_int (fun _ _ => rfl)) pa_nil)))) pss_nil)
      (pss_one (ps_ret (pe_op op_mul (pe_ix ix_tup (pv 0) pe_int (fun _ _ => rfl)) (pe_fn G_law_weight (hr.mono (by omega)) rfl (pa_cons (pe_ix ix_tup (pv 0) pe_int (fun _ _ => rfl)) pa_nil)))))))), ?_⟩
  obtain ⟨p, r, rfl, t⟩ := a.tag
  refine ⟨_, rfl, p, _, _, _, rfl, rfl, t, at0, rfl, _, rfl, if_tag (fun c => ?_) (fun c1 => ?_)⟩
  · obtain rfl := tag_one c
    exact q H (Same.refl H)
  refine ⟨_, rfl, p, _, _, _, rfl, rfl, t, at0, fits (by decide), fun p2 np2 => ⟨p2, _, rfl, .inr (SqT.of upd_same), rfl, rfl, _, rfl, if_two (fun c => ?_) (fun c2 c3 => ?_)⟩⟩
  all_goals have k2 := same_new (o := .tup [V.str "row", V.str "either"]) np2
  all_goals generalize upd H p2 (.tup [V.str "row", V.str "either"]) = H1 at k2 ⊢
  · have two : ∃ pq us, SqT K H1 p [V.str (tag s), .ref pq] ∧ SqT K H1 pq us ∧ Ats K H1 (kids s) us ∧ wt s = wts (kids s) := by
      rcases c with c | c
      · obtain ⟨ps, rfl⟩ := tag_row c
        unfold At at a
        obtain ⟨p', pq, us, e, t1, t2, a⟩ := a
        obtain rfl := V.ref.inj e
        exact ⟨pq, us, k2.kt _ _ t1, k2.kt _ _ t2, Ats.mono k2.kt _ _ a, by simp only [kids, wt]⟩
      · obtain ⟨ps, rfl⟩ := tag_either c
        unfold At at a
        obtain ⟨p', pq, us, e, t1, t2, a⟩ := a
        obtain rfl := V.ref.inj e
        exact ⟨pq, us, k2.kt _ _ t1, k2.kt _ _ t2, Ats.mono k2.kt _ _ a, by simp only [kids, wt]⟩
    obtain ⟨pk, us, t1, tk, ak, ew⟩ := two
    refine ⟨_, rfl, p, _, _, _, rfl, rfl, t1, at1, pk, rfl, ⟨_, tk⟩, fun Dl nD => lc_tup (K := K) (a := pk) (xs := us) (fun i H2 => Same H1 H2 ∧ H2 Dl = some (.lst ((((kids s).map fun p => (wt p : Int)).take i).map V.int))) ?_ ?_ ?_ ?_⟩
    · exact ⟨same_new nD, upd_same⟩
    · exact fun i H2 _ h => h.1.kt _ _ tk
    · rintro i x H2 hx ⟨sm2, eD⟩
      obtain ⟨s', es, ms, a'⟩ := sum_turn (D := Dl) ak sm2 hx
      have hi : i < (kids s).length := (List.getElem?_eq_some_iff.mp es).1
      have few := kids_few w1
      refine ⟨rfl, ?_⟩
      refine ⟨_, rfl, x, s', rfl, a', kids_wf w1 ms, by have := kids_dep ms; omega, fun H3 sm3 => ?_⟩
      obtain ⟨acc, e1, e2, e3⟩ := ints_take (xs := (kids s).map fun p => (wt p : Int)) (z := wt s') (by rw [List.getElem?_map, es]; rfl) (sm3 _ _ eD)
      refine ⟨acc, e1, e2 (by omega), fun b o e => ?_, by rw [upd_same, e3]⟩
      have hb : b ≠ Dl := ne_of_none e nD
      rw [upd_ne hb]
      exact sm3 _ _ (sm2 _ _ e)
    rintro H2 ⟨sm2, eD⟩
    have el : ((kids s).map fun p => (wt p : Int)).take us.length = (kids s).map fun p => (wt p : Int) := List.take_of_length_le (by rw [List.length_map, ak.length]; exact Nat.le_refl _)
    rw [el] at eD
    refine ⟨Dl, _, rfl, SqL.of eD, ?_⟩
    rw [sum_wts, ← ew]
    exact q H2 (k2.trans sm2)
  refine ⟨_, rfl, p, _, _, _, rfl, rfl, k2.kt _ _ t, at0, rfl, _, rfl, if_tag (fun c => ?_) (fun c4 => ?_)⟩
  · obtain ⟨s', rfl⟩ := tag_many c
    unfold At at a
    obtain ⟨p', u, e, t1, a1⟩ := a
    obtain rfl := V.ref.inj e
    simp only [wf] at w1
    simp only [dep] at dp
    refine ⟨_, rfl, p, _, _, _, rfl, rfl, k2.kt _ _ t1, at1, u, s', rfl, At.mono k2.kt _ _ a1, w1, by omega, fun H3 sm3 => ?_⟩
    have q' := q H3 (k2.trans sm3)
    simp only [wt] at q'
    exact q'
  · cases s with
    | one => exact absurd rfl c1
    | row ps => exact absurd rfl c2
    | either ps => exact absurd rfl c3
    | many s' => exact absurd rfl c4
    | times s' lo hi =>
      unfold At at a
      obtain ⟨p', u, e, t1, a1⟩ := a
      obtain rfl := V.ref.inj e
      simp only [wf] at w1
      simp only [dep] at dp
      refine ⟨_, rfl, p, _, _, _, rfl, rfl, k2.kt _ _ t1, at3, _, rfl, p, _, _, _, rfl, rfl, k2.kt _ _ t1, at1, u, s', rfl, At.mono k2.kt _ _ a1, w1.2.2, by omega, fun H3 sm3 => ⟨_, _, rfl, rfl, .inl ⟨by omega, by omega⟩, ?_⟩⟩
      have q' := q H3 (k2.trans sm3)
      simp only [wt, Int.natCast_mul] at q'
      exact q'

/-- the shapes as they are laid -/
def lays : Sh → List Sh
  | .one => []
  | .row ps => ps
  | .either ps => ps
  | .many p => [p]
  | .times p _ hi => List.replicate hi p
def spLays (K : PySem.W.Frag) : Sp := fun vs H Q _ => ∃ v s, vs = [v] ∧ At K H s v ∧ wf s ∧ s ≠ .one ∧ ∀ (p : Addr) (us : List V) (H' : Hp), Same H H' → SqT K H' p us → Ats K H' (lays s) us → Q (.ref p) H'
theorem rep_flat {α : Type} (u : α) : ∀ n : Nat, (List.replicate n [u]).flatten = List.replicate n u
  | 0 => rfl
  | n + 1 => by rw [List.replicate_succ, List.flatten_cons, rep_flat u n, List.replicate_succ]; rfl
theorem sc_law_laid : FnScope ["_law_shape_here"] ["_law_shape_here"] (defScope s_law_laid) := ⟨rfl, rfl, rfl, by decide +kernel, rfl, by decide +kernel, by decide +kernel⟩
theorem ok_law_laid {f : Addr} {fd : FuncData} (D : Def K mg "_law_laid" s_law_laid ["_law_shape_here"] f fd) : Has P w K mg base "_law_laid" 1 ["_law_shape_here"] (spLays K) := by
  refine D.has (D.F.ok sc_law_laid (fun vs H Q E h => ?_) (fun cdv A outer s H vs Q E hr h => ?_))
  · obtain ⟨v, s, rfl, _⟩ := h
    rfl
  obtain ⟨v, s, rfl, a, w1, n1, q⟩ := h
  have nd := sc_law_laid.nd
  refine ⟨_, (pss_cons (ps_if (pt_cmpR op_in_seq (pe_ix ix_tup (pv 0) pe_int (fun _ _ => rfl)) (pe_tup (pa_cons pe_str (pa_cons pe_str pa_nil))) rfl) (pss_one (ps_ret (pe_ix ix_tup (pv 0) pe_int (fun _ _ => rfl)))) pss_nil)
      (pss_cons (ps_if (pt_cmpR op_eq (pe_ix ix_tup (pv 0) pe_int (fun _ _ => rfl)) pe_str (nomark _)) (pss_one (ps_ret (pe_tup (pa_cons (pe_ix ix_tup (pv 0) pe_int (fun _ _ => rfl)) pa_nil)))) pss_nil)
      (pss_one (ps_ret (pe_op op_mulT (pe_tup (pa_cons (pe_ix ix_tup (pv 0) pe_int (fun _ _ => rfl)) pa_nil)) (pe_ix ix_tup (pv 0) pe_int (fun _ _ => rfl))))))), ?_⟩
  obtain ⟨p, r, rfl, t⟩ := a.tag
  refine ⟨_, rfl, p, _, _, _, rfl, rfl, t, at0, fits (by decide), fun p2 np2 => ⟨p2, _, rfl, .inr (SqT.of upd_same), rfl, rfl, _, rfl, if_two (fun c => ?_) (fun c2 c3 => ?_)⟩⟩
  all_goals have k2 := same_new (o := .tup [V.str "row", V.str "either"]) np2
  all_goals generalize upd H p2 (.tup [V.str "row", V.str "either"]) = H1 at k2 ⊢
  · rcases c with c | c
    · obtain ⟨ps, rfl⟩ := tag_row c
      unfold At at a
      obtain ⟨p', pq, us, e, t1, t2, a⟩ := a
      obtain rfl := V.ref.inj e
      exact ⟨_, rfl, p, _, _, _, rfl, rfl, k2.kt _ _ t1, at1, q pq us _ k2 (k2.kt _ _ t2) (Ats.mono k2.kt _ _ a)⟩
    · obtain ⟨ps, rfl⟩ := tag_either c
      unfold At at a
      obtain ⟨p', pq, us, e, t1, t2, a⟩ := a
      obtain rfl := V.ref.inj e
      exact ⟨_, rfl, p, _, _, _, rfl, rfl, k2.kt _ _ t1, at1, q pq us _ k2 (k2.kt _ _ t2) (Ats.mono k2.kt _ _ a)⟩
  refine ⟨_, rfl, p, _, _, _, rfl, rfl, k2.kt _ _ t, at0, rfl, _, rfl, if_tag (fun c => ?_) (fun c4 => ?_)⟩
  · obtain ⟨s', rfl⟩ := tag_many c
    unfold At at a
    obtain ⟨p', u, e, t1, a1⟩ := a
    obtain rfl := V.ref.inj e
    refine ⟨_, rfl, p, _, _, _, rfl, rfl, k2.kt _ _ t1, at1, (by show 1 ≤ sizeLine; decide), fun p3 np3 => q p3 [u] _ (k2.trans (same_new np3)) (SqT.of upd_same) ?_⟩
    simp only [lays]
    rw [Ats]
    exact ⟨u, [], rfl, At.mono (k2.trans (same_new np3)).kt _ _ a1, by unfold Ats; rfl⟩
  · cases s with
    | one => exact absurd rfl n1
    | row ps => exact absurd rfl c2
    | either ps => exact absurd rfl c3
    | many s' => exact absurd rfl c4
    | times s' lo hi =>
      unfold At at a
      obtain ⟨p', u, e, t1, a1⟩ := a
      obtain rfl := V.ref.inj e
      simp only [wf] at w1
      refine ⟨_, rfl, p, _, _, _, rfl, rfl, k2.kt _ _ t1, at1, (by show 1 ≤ sizeLine; decide), fun p3 np3 => ?_⟩
      have k3 := k2.trans (same_new (o := .tup [u]) np3)
      refine ⟨_, rfl, p, _, _, _, rfl, rfl, k3.kt _ _ t1, at3, p3, _, _, rfl, rfl, SqT.of upd_same, by simp, by omega, by omega, by simp, fun e => ?_, fun p4 np4 => ?_⟩
      · have e' : hi = 1 := by omega
        subst e'
        exact q p3 [u] _ k3 (SqT.of upd_same) (Ats.rep (At.mono k3.kt _ _ a1) 1)
      · have k4 := k3.trans (same_new (o := .tup (List.replicate (hi : Int).toNat [u]).flatten) np4)
        refine q p4 (List.replicate hi u) _ k4 (SqT.of (by rw [upd_same, rep_flat]; rfl)) (Ats.rep (At.mono k4.kt _ _ a1) hi)
end
end K12

/-! numbers drawn: _law_source, _law_draw -/
namespace K12
open PySem L2
/-- the list that numbers are drawn from, as it stands -/
structure Lft (H0 H : Hp) (l ca : Addr) (ks : List Int) (a1 a2 a3 a4 : Int) : Prop where
  at_ : H l = some (.lst [.ref ca, .int a1, .int a2, .int a3, .int a4])
  cells : H ca = some (.lst (ks.map V.int))
  ne : ca ≠ l
  kp : Keep (fun b => b = l) H0 H
  b1 : 0 ≤ a1
  b2 : 0 ≤ a2
  b3 : 0 ≤ a3
  b4 : 0 ≤ a4 ∧ a4 < 2147483647
/-- .. at most c numbers were drawn -/
def LeftAt (H : Hp) (l ca : Addr) (c : Nat) : Prop := ∃ ks a1 a2 a3 a4, Lft H H l ca ks a1 a2 a3 a4 ∧ a3 ≤ (c : Int)
theorem Lft.put {H0 H : Hp} {l ca : Addr} {ks : List Int} {a1 a2 a3 a4 : Int} (h : Lft H0 H l ca ks a1 a2 a3 a4) {c1 c2 c3 c4 : Int} (h1 : 0 ≤ c1) (h2 : 0 ≤ c2) (h3 : 0 ≤ c3) (h4 : 0 ≤ c4 ∧ c4 < 2147483647) :
    Lft H0 (upd H l (.lst [.ref ca, .int c1, .int c2, .int c3, .int c4])) l ca ks c1 c2 c3 c4 :=
  ⟨upd_same, by rw [upd_ne h.ne]; exact h.cells, h.ne, h.kp.trans (Keep.put (S := fun b => b = l) rfl) fun _ _ z => z, h1, h2, h3, h4⟩
theorem Lft.left {H0 H : Hp} {l ca : Addr} {ks : List Int} {a1 a2 a3 a4 : Int} (h : Lft H0 H l ca ks a1 a2 a3 a4) {c : Nat} (hc : a3 ≤ (c : Int)) : LeftAt H l ca c :=
  ⟨ks, a1, a2, a3, a4, ⟨h.at_, h.cells, h.ne, Keep.refl H, h.b1, h.b2, h.b3, h.b4⟩, hc⟩
theorem LeftAt.lst {H : Hp} {l ca : Addr} {c : Nat} (h : LeftAt H l ca c) : ∃ xs, H l = some (.lst xs) := let ⟨_, _, _, _, _, q, _⟩ := h; ⟨_, q.at_⟩
theorem LeftAt.mono {H : Hp} {l ca : Addr} {c d : Nat} (h : LeftAt H l ca c) (le : c ≤ d) : LeftAt H l ca d := let ⟨b, c1, c2, c3, c4, q, z⟩ := h; ⟨b, c1, c2, c3, c4, q, by omega⟩
/-- what does not touch the drawing leaves it -/
theorem LeftAt.keep {S : Addr → Prop} {H H' : Hp} {l ca : Addr} {c : Nat} (h : LeftAt H l ca c) (s : Keep S H H') (n1 : ¬ S l) (n2 : ¬ S ca) : LeftAt H' l ca c :=
  let ⟨b, c1, c2, c3, c4, q, z⟩ := h
  ⟨b, c1, c2, c3, c4, ⟨s.kp _ _ q.at_ n1, s.kp _ _ q.cells n2, q.ne, Keep.refl H', q.b1, q.b2, q.b3, q.b4⟩, z⟩
theorem LeftAt.same {H H' : Hp} {l ca : Addr} {c : Nat} (h : LeftAt H l ca c) (s : Same H H') : LeftAt H' l ca c := h.keep (Keep.of_same (S := fun _ => False) s) (fun z => z) fun z => z
theorem LeftAt.there {H : Hp} {l ca : Addr} {c : Nat} (h : LeftAt H l ca c) : H l ≠ none ∧ H ca ≠ none ∧ ca ≠ l := let ⟨_, _, _, _, _, q, _⟩ := h; ⟨some_ne q.at_, some_ne q.cells, q.ne⟩
theorem LeftAt.lists {H : Hp} {l ca : Addr} {c : Nat} (h : LeftAt H l ca c) : Lists H (fun b => b = l) := fun b e => .inr (by rw [e]; exact h.lst)
/-- so many numbers are drawn at most -/
abbrev most : Nat := 1000000000
section
variable {P : Program} {w : World} {K : PySem.W.Frag} {mg : Str → Option Value} {base : Heap} {C : Addr}
def spDraw (K : PySem.W.Frag) : Sp := fun vs H Q _ => ∃ (l ca : Addr) (m : Int) (c : Nat), vs = [.ref l, .int m] ∧ LeftAt H l ca c ∧ c < most ∧ 0 < m ∧ m < 1073741824 ∧
  ∀ (r : Int) (H' : Hp), 0 ≤ r → r < m → Keep (fun b => b = l) H H' → LeftAt H' l ca (c + 1) → Q (.int r) H'
theorem sc_law_draw : FnScope ["_law_left", "_law_many", "_law_told", "_law_cell"] ["_law_left", "_law_many"] (defScope s_law_draw) := ⟨rfl, rfl, rfl, by decide +kernel, rfl, by decide +kernel, by decide +kernel⟩
set_option maxHeartbeats 1000000 in
theorem ok_law_draw {f : Addr} {fd : FuncData} (D : Def K mg "_law_draw" s_law_draw ["_law_left", "_law_many"] f fd) (T : Txt K mg C) : Has P w K mg base "_law_draw" 1 ["_law_left", "_law_many"] (spDraw K) := by
  refine D.has (D.F.ok sc_law_draw (fun vs H Q E h => ?_) (fun cdv A outer s H vs Q E hr h => ?_))
  · obtain ⟨l, ca, m, c, rfl, _⟩ := h
    rfl
  obtain ⟨l, ca, m, c, rfl, ⟨ks, a1, a2, a3, a4, L0, hc⟩, hm, m0, m1, q⟩ := h
  have nd := sc_law_draw.nd
  refine ⟨_, (pss_cons (ps_augS (pv 0) pe_int get_list pe_int ip_add set_list)
      (pss_mid (ps_if (PW.pt (pw_and (pt_cmpR op_eq (pe_ix ix_list (pv 0) pe_int (fun _ _ => rfl)) pe_int (nomark _)) (pw_and1 (pt_cmpR op_lt (pe_ix ix_list (pv 0) pe_int (fun _ _ => rfl)) (pe_callB call_len_seq (by rfl) T.m_len (by decide +kernel) (pa_cons (pe_ix ix_list (pv 0) pe_int (fun _ _ => rfl)) pa_nil)) (nomark _))))) (pss_cons (ps_set (i := 3) nd rfl (Or.inl rfl) (pe_ix ix_list (pe_ix ix_list (pv 0) pe_int (fun _ _ => rfl)) (pe_ix ix_list (pv 0) pe_int (fun _ _ => rfl)) (fun _ _ => rfl)))
      (pss_cons (ps_augS (pv 0) pe_int get_list pe_int ip_add set_list)
      (pss_one (ps_if (pt_cmpR op_ge (pv 3) (pe_op op_pow pe_int pe_int) (nomark _)) (pss_one (ps_asg (pv 3) (pg_sub (pv 0) pe_int set_list))) (pss_one (ps_asg (pe_op op_mod (pe_op op_add (pe_op op_mul (pe_ix ix_list (pv 0) pe_int (fun _ _ => rfl)) pe_int) (pv 3)) pe_int) (pg_sub (pv 0) pe_int set_list))))))) pss_nil)
      (pss_cons (ps_if (pt_cmpR op_gt (pe_ix ix_list (pv 0) pe_int (fun _ _ => rfl)) pe_int (nomark _)) (pss_cons (ps_set (i := 2) nd rfl (Or.inl rfl) (pe_op op_mod (pe_ix ix_list (pv 0) pe_int (fun _ _ => rfl)) (pv 1)))
      (pss_cons (ps_augS (pv 0) pe_int get_list (pv 1) (ip_of iop_fdiv) set_list)
      (pss_one (ps_ret (pv 2))))) pss_nil)
      (pss_cons (ps_set (i := 2) nd rfl (Or.inl rfl) (pe_op op_mod (pe_op op_pow (pe_op op_add (pe_op op_add (pe_ix ix_list (pv 0) pe_int (fun _ _ => rfl)) pe_int) (pe_op op_mul (pe_ix ix_list (pv 0) pe_int (fun _ _ => rfl)) pe_int)) pe_int) pe_int))
      (pss_one (ps_ret (pe_op op_mod (pe_op op_fdiv (pe_op op_mod (pe_op op_pow (pe_op op_add (pe_op op_mul (pv 2) pe_int) (pe_ix ix_list (pv 0) pe_int (fun _ _ => rfl))) pe_int) pe_int) pe_int) (pv 1)))))))), ?_⟩
  -- left[3] += 1
  have b3 := L0.b3
  refine ⟨_, rfl, l, _, _, _, rfl, rfl, SqL.of L0.at_, by decide, rfl, _, _, rfl, rfl, l, _, _, _, rfl, rfl, L0.at_, rfl, ?_⟩
  have L1 := L0.put (c1 := a1) (c2 := a2) (c3 := a3 + 1) (c4 := a4) L0.b1 L0.b2 (by omega) L0.b4
  refine ⟨fun σ H1 => ∃ (x : Option V) (c1 c2 c4 : Int), σ = [some (.ref l), some (.int m), none, x] ∧ Lft H H1 l ca ks c1 c2 (a3 + 1) c4, ?_, ?_⟩
  · -- the next cell
    refine ⟨_, rfl, l, _, _, _, rfl, rfl, SqL.of L1.at_, rfl, rfl, _, rfl, ite2 (fun e1 => ?_) (fun _ => ⟨none, a1, a2, a4, rfl, L1⟩)⟩
    refine ⟨_, rfl, l, _, _, _, rfl, rfl, SqL.of L1.at_, rfl, _, rfl, l, _, _, _, rfl, rfl, SqL.of L1.at_, rfl, ca, _, rfl, .inl (SqL.of L1.cells), _, _, rfl, rfl, _, rfl, ite2 (fun e2 => ?_) (fun _ => ⟨none, a1, a2, a4, rfl, L1⟩)⟩
    have e2 := of_decide_eq_true e2
    rw [List.length_map] at e2
    have lt : a1.toNat < ks.length := by have := L0.b1; omega
    have ix : atI (ks.map V.int) a1 = some (.int ks[a1.toNat]) := at_of (j := a1.toNat) (by have := L0.b1; omega) (by rw [List.getElem?_map, List.getElem?_eq_getElem lt]; rfl)
    generalize ks[a1.toNat] = z at ix
    -- cell = left[0][left[1]]
    refine ⟨_, rfl, l, _, _, _, rfl, rfl, SqL.of L1.at_, rfl, _, rfl, l, _, _, _, rfl, rfl, SqL.of L1.at_, rfl, ca, _, _, _, rfl, rfl, SqL.of L1.cells, ix, ?_⟩
    -- left[1] += 1
    refine ⟨_, rfl, l, _, _, _, rfl, rfl, SqL.of L1.at_, by decide, rfl, _, _, rfl, rfl, l, _, _, _, rfl, rfl, L1.at_, rfl, ?_⟩
    have L2 := L1.put (c1 := a1 + 1) (c2 := a2) (c3 := a3 + 1) (c4 := a4) (by have := L0.b1; omega) L0.b2 (by omega) L0.b4
    refine ⟨_, rfl, _, _, rfl, rfl, ⟨by decide, by decide, by decide⟩, _, _, rfl, rfl, _, rfl, ite2 (fun e3 => ?_) (fun e3 => ?_)⟩
    · have e3 : (10 : Int) ^ (18 : Int).toNat ≤ z := of_decide_eq_true e3
      have z0 : 0 ≤ z := Int.le_trans (by decide) e3
      refine ⟨_, rfl, _, rfl, l, _, _, _, rfl, rfl, L2.at_, rfl, ?_⟩
      exact ⟨some (.int z), a1 + 1, z, a4, rfl, L2.put (by have := L0.b1; omega) z0 (by omega) L0.b4⟩
    · refine ⟨_, rfl, l, _, _, _, rfl, rfl, SqL.of L2.at_, rfl, _, _, rfl, rfl, .inl ⟨by have := L0.b4; omega, by have := L0.b4; omega⟩, _, rfl, _, _, rfl, rfl, _, _, rfl, rfl, (by show (0 : Int) < 2147483647; decide), _, rfl, l, _, _, _, rfl, rfl, L2.at_, rfl, ?_⟩
      exact ⟨some (.int z), a1 + 1, a2, (a4 * 31 + z) % 2147483647, rfl, L2.put (by have := L0.b1; omega) L0.b2 (by omega) ⟨Int.emod_nonneg _ (by decide), Int.emod_lt_of_pos _ (by decide)⟩⟩
  rintro σ H1 ⟨x, c1, c2, c4, rfl, L2⟩
  have fin : ∀ {r : Int} {H2 : Hp} {d1 d2 d4 : Int}, 0 ≤ r → r < m → Lft H H2 l ca ks d1 d2 (a3 + 1) d4 → Q (.int r) H2 := fun h0 h1 h => q _ _ h0 h1 h.kp (h.left (by omega))
  refine ⟨_, rfl, l, _, _, _, rfl, rfl, SqL.of L2.at_, rfl, _, _, rfl, rfl, _, rfl, ite2 (fun e1 => ?_) (fun e1 => ?_)⟩
  · have b2 := L2.b2
    refine ⟨_, rfl, l, _, _, _, rfl, rfl, SqL.of L2.at_, rfl, _, rfl, _, _, rfl, rfl, m0, ?_⟩
    refine ⟨_, rfl, l, _, _, _, rfl, rfl, SqL.of L2.at_, by decide, rfl, _, rfl, _, _, rfl, rfl, ⟨m0, m1⟩, l, _, _, _, rfl, rfl, L2.at_, rfl, ?_⟩
    have L3 := L2.put (c1 := c1) (c2 := c2 / m) (c3 := a3 + 1) (c4 := c4) L2.b1 (Int.ediv_nonneg b2 (by omega)) L2.b3 L2.b4
    exact ⟨_, rfl, fin (Int.emod_nonneg _ (by omega)) (Int.emod_lt_of_pos _ m0) L3⟩
  · have b4 := L2.b4
    have hm : c < 1000000000 := hm
    refine ⟨_, rfl, l, _, _, _, rfl, rfl, SqL.of L2.at_, rfl, _, _, rfl, rfl, _, rfl, l, _, _, _, rfl, rfl, SqL.of L2.at_, rfl, _, _, rfl, rfl, .inl ⟨by omega, by omega⟩, _, _, rfl, rfl, _, _, rfl, rfl, ⟨by decide, by decide, by omega⟩, _, _, rfl, rfl, (by show (0 : Int) < 2147483647; decide), ?_⟩
    generalize (c4 + 1 + (a3 + 1) * 7919) ^ (3 : Int).toNat = y
    have y0 : 0 ≤ y % 2147483647 := Int.emod_nonneg _ (by decide)
    have y1 : y % 2147483647 < 2147483647 := Int.emod_lt_of_pos _ (by decide)
    generalize y % 2147483647 = u at y0 y1 ⊢
    refine ⟨_, rfl, _, _, rfl, rfl, .inl ⟨by omega, by omega⟩, _, rfl, l, _, _, _, rfl, rfl, SqL.of L2.at_, rfl, _, _, rfl, rfl, _, _, rfl, rfl, ⟨by decide, by decide, by omega⟩, _, _, rfl, rfl, (by show (0 : Int) < 2147483629; decide), _, _, rfl, rfl, ⟨by decide, by decide⟩, _, rfl, _, _, rfl, rfl, m0, ?_⟩
    exact fin (Int.emod_nonneg _ (by omega)) (Int.emod_lt_of_pos _ m0) L2
end
end K12

/-! numbers drawn: _law_source, _law_signs, _law_tongue, _law_ones -/
namespace K12
open PySem L2
theorem slen_app (a b : Str) : (a ++ b).length = a.length + b.length := by
  show (a.cps ++ b.cps).size = a.cps.size + b.cps.size
  exact Array.size_append ..
theorem six_nat (n d : Nat) {v : Int} (h : 0 ≤ v) : HT.sIx n d (some v) = min v.toNat n := by
  have e : v = ((v.toNat : Nat) : Int) := by omega
  rw [e, HT.sIx_nat, Int.toNat_natCast]
theorem cut_len (z : Str) (lo hi : Option Int) : (cutS z lo hi).length = min (HT.sIx z.length z.length hi - HT.sIx z.length 0 lo) (z.length - HT.sIx z.length 0 lo) := by
  show (((z.cps.toList.drop (HT.sIx z.length 0 lo)).take (HT.sIx z.length z.length hi - HT.sIx z.length 0 lo)).toArray).size = _
  rw [List.size_toArray, List.length_take, List.length_drop, Array.length_toList]
  rfl
theorem shorter {z : Str} {r : Int} (h0 : 0 ≤ r) (h1 : r < z.length) : (cutS z none (some r)).length + (cutS z (some (r + 1)) none).length + 1 = z.length := by
  rw [cut_len, cut_len, six_nat _ _ h0, six_nat _ _ (show 0 ≤ r + 1 by omega), HT.sIx_none, HT.sIx_none]
  omega
theorem sign_at {z : Str} {r : Int} (h0 : 0 ≤ r) (h1 : r < z.length) : ∃ c, atI z.cps.toList r = some c := by
  have lt : r.toNat < z.cps.toList.length := by
    rw [Array.length_toList]
    have : (z.cps.size : Int) = z.length := rfl
    omega
  have er : ((r.toNat : Nat) : Int) = r := by omega
  have q := atI_nat (List.getElem?_eq_getElem lt)
  rw [er] at q
  exact ⟨_, q⟩
theorem one_sign (c : Nat) : (⟨#[c]⟩ : Str).length = 1 := rfl
section
variable {P : Program} {w : World} {K : PySem.W.Frag} {mg : Str → Option Value} {base : Heap} {C : Addr}
def spSource (K : PySem.W.Frag) : Sp := fun vs H Q _ => ∃ (a : Addr) (ns : List Int), vs = [.ref a] ∧ SqL K H a (ns.map V.int) ∧ ns.length ≤ 63 ∧ ∀ (l ca : Addr) (H' : Hp), Same H H' → H l = none → H ca = none → LeftAt H' l ca 0 → Q (.ref l) H'
theorem sc_law_source : FnScope ["_law_script", "_law_cells", "_law_cell"] ["_law_script"] (defScope s_law_source) := ⟨rfl, rfl, rfl, by decide +kernel, rfl, by decide +kernel, by decide +kernel⟩
theorem ok_law_source {f : Addr} {fd : FuncData} (D : Def K mg "_law_source" s_law_source ["_law_script"] f fd) (T : Txt K mg C) : Has P w K mg base "_law_source" 1 ["_law_script"] (spSource K) := by
  refine D.has (D.F.ok sc_law_source (fun vs H Q E h => ?_) (fun cdv A outer s H vs Q E hr h => ?_))
  · obtain ⟨l, ns, rfl, _⟩ := h
    rfl
  obtain ⟨a, ns, rfl, hS, h63, q⟩ := h
  have nd := sc_law_source.nd
  refine ⟨_, (pss_cons (ps_setLc (i := 1) (own := [("_law_cell", 2)]) (g := gName 2) (tt := tYes) rfl nd rfl rfl (sw_true rfl rfl rfl (by decide +kernel)) (pi_list (pe_slice sl_list (pv 0) po_none (po_some pe_int))) (blkOk_by (own := [("_law_cell", 2)]) (N := ["_law_script", "_law_cells", "_law_cell"]) (sc := defScope s_law_source) (by decide +kernel)) (fun _ _ _ _ _ => pg_name (i := 2) nd rfl (Or.inl rfl)) (fun _ _ _ _ _ => pts_nil) (fun _ _ _ _ _ => (pe_op op_add (pe_op op_mul pe_int (pe_callB call_abs (by rfl) T.m_abs (by decide +kernel) (pa_cons (pv 2) pa_nil))) (pe_callTy call_int1 (by rfl) T.m_int (by decide +kernel) (pa_cons (pe_cmpR op_lt (pv 2) pe_int (nomark _)) pa_nil)))))
      (pss_one (ps_ret (pe_lst (pa_cons (pv 1) (pa_cons pe_int (pa_cons pe_int (pa_cons pe_int (pa_cons (pe_op op_mod (pe_callB (cr_sum rfl) (by rfl) T.m_sum (by decide +kernel) (pa_cons (pv 1) pa_nil)) pe_int) pa_nil))))))))), ?_⟩
  refine ⟨_, rfl, _, rfl, a, _, rfl, hS, fun p np => ⟨p, rfl, ⟨_, SqL.of upd_same⟩, fun Dl nD => lc_list (K := K) (a := p) (xs := cutV (ns.map V.int) none (some 63))
    (fun i H2 => Same (upd H p (.lst (cutV (ns.map V.int) none (some 63)))) H2 ∧ ∃ ks : List Int, ks.length = i ∧ H2 Dl = some (.lst (ks.map V.int))) ⟨same_new nD, [], rfl, upd_same⟩ (fun i H2 _ h => h.1.seq (SqL.of upd_same)) ?_ ?_⟩⟩
  · rintro i x H2 hx ⟨sm, ks, lk, eD⟩
    obtain ⟨z, rfl⟩ : ∃ z, x = V.int z := by
      have m : x ∈ ns.map V.int := List.mem_of_mem_drop (List.mem_of_mem_take (List.mem_of_getElem? hx))
      obtain ⟨z, _, e⟩ := List.mem_map.mp m
      exact ⟨z, e.symm⟩
    have lt : i < 64 := by
      have l1 := (List.getElem?_eq_some_iff.mp hx).1
      have l2 := cutV_length (ns.map V.int) none (some 63)
      rw [List.length_map] at l2
      omega
    refine ⟨rfl, ?_⟩
    refine ⟨_, rfl, _, rfl, _, _, rfl, rfl, .inl ⟨by decide, by decide⟩, _, rfl, _, _, rfl, rfl, .inr ⟨_, rfl, _, _, rfl, rfl, ?_⟩⟩
    refine ⟨_, eD, fits' (by rw [List.length_map]; omega), fun b o e => ?_, ks ++ [_], by rw [List.length_append, lk]; rfl, by rw [upd_same, List.map_append]; rfl⟩
    rw [upd_ne (ne_of_none e nD)]
    exact sm _ _ e
  rintro H2 ⟨sm, ks, lk, eD⟩
  refine ⟨_, rfl, _, rfl, Dl, ks, rfl, SqL.of eD, _, _, rfl, rfl, (by show (0 : Int) < 2147483647; decide), (by show 5 ≤ sizeLine; decide), fun l nl => ?_⟩
  have s3 := (same_new (o := .lst (cutV (ns.map V.int) none (some 63))) np).trans sm
  refine q l Dl _ (s3.trans (same_new nl)) (s3.free nl) ((same_new (o := .lst (cutV (ns.map V.int) none (some 63))) np).free nD) ⟨ks, 0, 0, 0, ks.sum % 2147483647, ⟨upd_same, by rw [upd_ne (ne_of_none eD nl)]; exact eD, ne_of_none eD nl, Keep.refl _, by decide, by decide, by decide, Int.emod_nonneg _ (by decide), Int.emod_lt_of_pos _ (by decide)⟩, by decide⟩
def spSigns : Sp := fun vs H Q _ => vs = [] ∧ ∀ z : Str, z.length = 95 → Q (.str z) H
theorem sc_law_signs : FnScope ["_law_some"] [] (defScope s_law_signs) := ⟨rfl, rfl, rfl, by decide +kernel, rfl, by decide +kernel, by decide +kernel⟩
theorem ok_law_signs {f : Addr} {fd : FuncData} (D : Def K mg "_law_signs" s_law_signs [] f fd) : Has P w K mg base "_law_signs" 1 [] spSigns := by
  refine D.has (D.F.ok sc_law_signs (fun vs H Q E h => ?_) (fun cdv A outer s H vs Q E hr h => ?_))
  · obtain ⟨rfl, _⟩ := h
    rfl
  obtain ⟨rfl, q⟩ := h
  have nd := sc_law_signs.nd
  refine ⟨_, (pss_cons (ps_set (i := 0) nd rfl (Or.inl rfl) pe_str)
      (pss_one (ps_ret (pe_op op_add_str (pv 0) pe_str)))), ?_⟩
  exact ⟨_, rfl, _, _, rfl, rfl, by decide +kernel, q _ (by decide +kernel)⟩
def spTongue (K : PySem.W.Frag) : Sp := fun vs H Q _ => ∃ (l ca : Addr) (c : Nat), vs = [.ref l] ∧ LeftAt H l ca c ∧ c + 8 < most ∧
  ∀ (z : Str) (H' : Hp), 1 ≤ z.length → z.length ≤ 6 → Keep (fun b => b = l) H H' → LeftAt H' l ca (c + 8) → Q (.str z) H'
theorem sc_law_tongue : FnScope ["_law_left", "_law_rest", "_law_told", "_law_k", "_law_at"] ["_law_left"] (defScope s_law_tongue) := ⟨rfl, rfl, rfl, by decide +kernel, rfl, by decide +kernel, by decide +kernel⟩
theorem ok_law_tongue {f : Addr} {fd : FuncData} (D : Def K mg "_law_tongue" s_law_tongue ["_law_left"] f fd) (T : Txt K mg C) (G_law_signs : Has P w K mg base "_law_signs" 1 [] spSigns)
    (G_law_draw : Has P w K mg base "_law_draw" 1 ["_law_left", "_law_many"] (spDraw K)) : Has P w K mg base "_law_tongue" 2 ["_law_left"] (spTongue K) := by
  refine D.has (D.F.ok sc_law_tongue (fun vs H Q E h => ?_) (fun cdv A outer s H vs Q E hr h => ?_))
  · obtain ⟨l, ca, c, rfl, _⟩ := h
    rfl
  obtain ⟨l, ca, c, rfl, hl, hc, q⟩ := h
  have nd := sc_law_tongue.nd
  refine ⟨_, (pss_cons (ps_set (i := 1) nd rfl (Or.inl rfl) (pe_fn0 G_law_signs (hr.mono (by omega)) rfl))
      (pss_cons (ps_set (i := 2) nd rfl (Or.inl rfl) pe_str)
      (pss_cons (ps_for PassesOwn.never rfl (pi_range1 (by rfl) T.m_range (pa_cons (pe_op op_add pe_int (pe_fn G_law_draw (hr.mono (by omega)) rfl (pa_cons (pv 0) (pa_cons pe_int pa_nil)))) pa_nil)) (pg_name (i := 3) nd rfl (Or.inl rfl)) (pss_cons (ps_set (i := 4) nd rfl (Or.inl rfl) (pe_fn G_law_draw (hr.mono (by omega)) rfl (pa_cons (pv 0) (pa_cons (pe_callB call_len_str (by rfl) T.m_len (by decide +kernel) (pa_cons (pv 1) pa_nil)) pa_nil))))
      (pss_cons (ps_aug (i := 2) nd rfl (Or.inl rfl) (pe_ix ix_str (pv 1) (pv 4) (fun _ _ => rfl)) (ip_of iop_add_str))
      (pss_one (ps_set (i := 1) nd rfl (Or.inl rfl) (pe_op op_add_str (pe_slice sl_str (pv 1) po_none (po_some (pv 4))) (pe_slice sl_str (pv 1) (po_some (pe_op op_add (pv 4) pe_int)) po_none)))))))
      (pss_one (ps_ret (pv 2)))))), ?_⟩
  refine ⟨rfl, fun z0 lz0 => ?_⟩
  refine ⟨_, rfl, l, ca, 6, c, rfl, hl, by omega, by decide, by decide, fun n H1 n0 n1 k1 l1 => ⟨_, _, rfl, rfl, _, rfl, by omega, by omega, for_range (n := (1 + n).toNat)
    (fun i σ H2 => ∃ (rest told : Str) (v3 v4 : Option V), σ = [some (.ref l), some (.str rest), some (.str told), v3, v4] ∧ rest.length + i = 95 ∧ told.length = i ∧ Keep (fun b => b = l) H H2 ∧ LeftAt H2 l ca (c + 1 + i))
    ⟨z0, _, none, none, rfl, by omega, by decide +kernel, k1, l1⟩ ?_ ?_⟩⟩
  · rintro i σ H2 hi ⟨rest, told, v3, v4, rfl, lr, lt, k2, l2⟩
    refine ⟨_, rfl, _, rfl, _, rfl, fits (by omega), l, ca, _, c + 1 + i, rfl, l2, by omega, by omega, by omega, fun r H3 r0 r1 k3 l3 => ?_⟩
    obtain ⟨cc, hcc⟩ := sign_at r0 r1
    have sh := shorter r0 r1
    refine ⟨_, rfl, _, rfl, _, rfl, rest, r, cc, rfl, rfl, fits (by omega), hcc, _, _, rfl, rfl, fits (by rw [one_sign]; omega), ?_⟩
    refine ⟨_, rfl, _, rfl, _, rfl, rest, rfl, fits (by omega), _, rfl, _, rfl, _, _, rfl, rfl, _, rfl, rest, rfl, fits (by omega), _, _, rfl, rfl, fits (by omega), ?_⟩
    refine ⟨_, _, _, _, rfl, by rw [slen_app]; omega, by rw [slen_app, one_sign, lt], k2.trans k3 fun _ _ z => z, l3⟩
  · rintro σ H2 ⟨rest, told, v3, v4, rfl, lr, lt, k2, l2⟩
    exact ⟨_, rfl, q told H2 (by omega) (by omega) k2 (l2.mono (by omega))⟩
def spOnes (K : PySem.W.Frag) : Sp := fun vs H Q _ => ∃ (l ca : Addr) (t : Str) (c : Nat), vs = [.ref l, .str t] ∧ LeftAt H l ca c ∧ c + 8 < most ∧ 1 ≤ t.length ∧ t.length ≤ 6 ∧
  ∀ (z : Str) (H' : Hp), Keep (fun b => b = l) H H' → LeftAt H' l ca (c + 8) → Q (.str z) H'
theorem sc_law_ones : FnScope ["_law_left", "_law_tongue_here", "_law_rest", "_law_told", "_law_many", "_law_k", "_law_at"] ["_law_left", "_law_tongue_here"] (defScope s_law_ones) := ⟨rfl, rfl, rfl, by decide +kernel, rfl, by decide +kernel, by decide +kernel⟩
theorem ok_law_ones {f : Addr} {fd : FuncData} (D : Def K mg "_law_ones" s_law_ones ["_law_left", "_law_tongue_here"] f fd) (T : Txt K mg C)
    (G_law_draw : Has P w K mg base "_law_draw" 1 ["_law_left", "_law_many"] (spDraw K)) : Has P w K mg base "_law_ones" 2 ["_law_left", "_law_tongue_here"] (spOnes K) := by
  refine D.has (D.F.ok sc_law_ones (fun vs H Q E h => ?_) (fun cdv A outer s H vs Q E hr h => ?_))
  · obtain ⟨l, ca, t, c, rfl, _⟩ := h
    rfl
  obtain ⟨l, ca, t, c, rfl, hl, hc, t0, t1, q⟩ := h
  have nd := sc_law_ones.nd
  refine ⟨_, (pss_cons (ps_set (i := 2) nd rfl (Or.inl rfl) (pv 1))
      (pss_cons (ps_set (i := 3) nd rfl (Or.inl rfl) pe_str)
      (pss_cons (ps_set (i := 4) nd rfl (Or.inl rfl) pe_int)
      (pss_mid (ps_if (pt_cmpR op_eq (pe_fn G_law_draw (hr.mono (by omega)) rfl (pa_cons (pv 0) (pa_cons pe_int pa_nil))) pe_int (nomark _)) (pss_one (ps_set (i := 4) nd rfl (Or.inl rfl) (pe_op op_add pe_int (pe_fn G_law_draw (hr.mono (by omega)) rfl (pa_cons (pv 0) (pa_cons (pe_callB call_len_str (by rfl) T.m_len (by decide +kernel) (pa_cons (pv 1) pa_nil)) pa_nil)))))) pss_nil)
      (pss_cons (ps_for PassesOwn.never rfl (pi_range1 (by rfl) T.m_range (pa_cons (pv 4) pa_nil)) (pg_name (i := 5) nd rfl (Or.inl rfl)) (pss_cons (ps_set (i := 6) nd rfl (Or.inl rfl) (pe_fn G_law_draw (hr.mono (by omega)) rfl (pa_cons (pv 0) (pa_cons (pe_callB call_len_str (by rfl) T.m_len (by decide +kernel) (pa_cons (pv 2) pa_nil)) pa_nil))))
      (pss_cons (ps_aug (i := 3) nd rfl (Or.inl rfl) (pe_ix ix_str (pv 2) (pv 6) (fun _ _ => rfl)) (ip_of iop_add_str))
      (pss_one (ps_set (i := 2) nd rfl (Or.inl rfl) (pe_op op_add_str (pe_slice sl_str (pv 2) po_none (po_some (pv 6))) (pe_slice sl_str (pv 2) (po_some (pe_op op_add (pv 6) pe_int)) po_none)))))))
      (pss_one (ps_ret (pv 3)))))))), ?_⟩
  refine ⟨_, rfl, ?_⟩
  refine ⟨fun σ H1 => ∃ n : Int, σ = [some (.ref l), some (.str t), some (.str t), some (.str ""), some (.int n), none, none] ∧ 1 ≤ n ∧ n ≤ t.length ∧ Keep (fun b => b = l) H H1 ∧ LeftAt H1 l ca (c + 2), ?_, ?_⟩
  · refine ⟨_, rfl, l, ca, 2, c, rfl, hl, by omega, by decide, by decide, fun n H1 n0 n1 k1 l1 => ⟨rfl, _, rfl, ite2 (fun e => ?_) (fun e => ⟨1, rfl, by omega, by omega, k1, l1.mono (by omega)⟩)⟩⟩
    refine ⟨_, rfl, _, rfl, _, rfl, fits (by omega), l, ca, _, c + 1, rfl, l1, by omega, by omega, by omega, fun r H3 r0 r1 k3 l3 => ⟨_, _, rfl, rfl, ?_⟩⟩
    exact ⟨1 + r, rfl, by omega, by omega, k1.trans k3 fun _ _ z => z, l3⟩
  rintro σ H1 ⟨n, rfl, n0, n1, k1, l1⟩
  refine ⟨_, rfl, _, rfl, by omega, by omega, for_range (n := n.toNat)
    (fun i σ H2 => ∃ (rest told : Str) (v5 v6 : Option V), σ = [some (.ref l), some (.str t), some (.str rest), some (.str told), some (.int n), v5, v6] ∧ rest.length + i = t.length ∧ told.length = i ∧ Keep (fun b => b = l) H H2 ∧ LeftAt H2 l ca (c + 2 + i))
    ⟨t, _, none, none, rfl, by omega, by decide +kernel, k1, l1⟩ ?_ ?_⟩
  · rintro i σ H2 hi ⟨rest, told, v3, v4, rfl, lr, lt, k2, l2⟩
    refine ⟨_, rfl, _, rfl, _, rfl, fits (by omega), l, ca, _, c + 2 + i, rfl, l2, by omega, by omega, by omega, fun r H3 r0 r1 k3 l3 => ?_⟩
    obtain ⟨cc, hcc⟩ := sign_at r0 r1
    have sh := shorter r0 r1
    refine ⟨_, rfl, _, rfl, _, rfl, rest, r, cc, rfl, rfl, fits (by omega), hcc, _, _, rfl, rfl, fits (by rw [one_sign]; omega), ?_⟩
    refine ⟨_, rfl, _, rfl, _, rfl, rest, rfl, fits (by omega), _, rfl, _, rfl, _, _, rfl, rfl, _, rfl, rest, rfl, fits (by omega), _, _, rfl, rfl, fits (by omega), ?_⟩
    refine ⟨_, _, _, _, rfl, by rw [slen_app]; omega, by rw [slen_app, one_sign, lt], k2.trans k3 fun _ _ z => z, l3⟩
  · rintro σ H2 ⟨rest, told, v3, v4, rfl, lr, lt, k2, l2⟩
    exact ⟨_, rfl, q told H2 k2 (l2.mono (by omega))⟩
end
end K12

/-! a shape drawn: _law_shape -/
namespace K12
open PySem L2
/-- so many draws at most for a shape so deep -/
def draws : Nat → Nat
  | 0 => 20
  | d + 1 => 20 + 6 * draws d
theorem draws_pos (d : Nat) : 20 ≤ draws d := by cases d <;> simp only [draws] <;> omega
section
variable {P : Program} {w : World} {K : PySem.W.Frag} {mg : Str → Option Value} {base : Heap} {C : Addr}
def spShape (K : PySem.W.Frag) (d : Nat) : Sp := fun vs H Q _ => ∃ (l ca rm : Addr) (t : Str) (deep purse k : Int) (c : Nat), vs = [.ref l, .str t, .int deep, .int purse, .ref rm] ∧ 1 ≤ t.length ∧ t.length ≤ 6 ∧ LeftAt H l ca c ∧ H rm = some (.lst [.int k]) ∧ rm ≠ l ∧ rm ≠ ca ∧
  1 ≤ deep ∧ deep ≤ d ∧ 0 ≤ purse ∧ c + draws d < most ∧
  ∀ (v : V) (s : Sh) (k1 : Int) (H' : Hp), At K H' s v → wf s → (dep s : Int) ≤ deep → (wt s : Int) ≤ purse → Keep (fun b => b = l ∨ b = rm) H H' → LeftAt H' l ca (c + draws d) → H' rm = some (.lst [.int k1]) → Q v H'
theorem purse_times {p h x : Int} (h0 : 0 ≤ p) (hh : 0 ≤ h) (hx0 : 0 ≤ x) (hx : x ≤ p / (if h > 1 then h else 1)) : h * x ≤ p := by
  by_cases c : h > 1
  · rw [if_pos c] at hx
    exact Int.le_trans (Int.mul_le_mul_of_nonneg_left hx hh) (by rw [Int.mul_comm]; exact Int.ediv_mul_le p (by omega))
  · rw [if_neg c] at hx
    rw [Int.ediv_one] at hx
    rcases (show h = 0 ∨ h = 1 by omega) with e | e
    · subst e; rw [Int.zero_mul]; exact h0
    · subst e; rw [Int.one_mul]; exact hx
theorem wfs_snoc {ss : List Sh} {s : Sh} (h : wfs ss) (h' : wf s) : wfs (ss ++ [s]) := wfs_mem.mpr fun p hp => by
  rcases List.mem_append.mp hp with hp | hp
  · exact wfs_mem.mp h p hp
  · rw [List.mem_singleton.mp hp]; exact h'
theorem deps_le {ss : List Sh} {n : Int} (h0 : 0 ≤ n) (h : ∀ p ∈ ss, (dep p : Int) ≤ n) : (deps ss : Int) ≤ n := by
  induction ss with
  | nil => simp only [deps]; exact h0
  | cons s ss ih =>
    simp only [deps]
    have h1 := h s List.mem_cons_self
    have h2 := ih fun p hp => h p (List.mem_cons_of_mem _ hp)
    omega
theorem counts {i : Int} (h0 : 0 ≤ i) (h1 : i < 8) : ∃ n : Int, atI [V.int 1, V.int 2, V.int 2, V.int 3, V.int 3, V.int 4, V.int 5, V.int 6] i = some (V.int n) ∧ 1 ≤ n ∧ n ≤ 6 := by
  rcases (show i = 0 ∨ i = 1 ∨ i = 2 ∨ i = 3 ∨ i = 4 ∨ i = 5 ∨ i = 6 ∨ i = 7 by omega) with e | e | e | e | e | e | e | e <;> subst e <;> exact ⟨_, rfl, by decide, by decide⟩
theorem sc_law_shape : FnScope ["_law_left", "_law_tongue_here", "_law_deep", "_law_purse", "_law_room", "_law_sort", "_law_parts", "_law_k", "_law_high", "_law_low", "_law_part"] ["_law_left", "_law_tongue_here", "_law_deep", "_law_purse", "_law_room"] (defScope s_law_shape) := ⟨rfl, rfl, rfl, by decide +kernel, rfl, by decide +kernel, by decide +kernel⟩
set_option maxHeartbeats 2000000 in
theorem ok_law_shape {f : Addr} {fd : FuncData} {d : Nat} (D : Def K mg "_law_shape" s_law_shape ["_law_left", "_law_tongue_here", "_law_deep", "_law_purse", "_law_room"] f fd) (T : Txt K mg C)
    (G_law_draw : Has P w K mg base "_law_draw" 1 ["_law_left", "_law_many"] (spDraw K)) (G_law_ones : Has P w K mg base "_law_ones" 2 ["_law_left", "_law_tongue_here"] (spOnes K)) (G_law_weight : Has P w K mg base "_law_weight" (d + 1) ["_law_shape_here"] (spWeight K d))
    (G_law_shape : Has P w K mg base "_law_shape" (d + 2) ["_law_left", "_law_tongue_here", "_law_deep", "_law_purse", "_law_room"] (spShape K d)) : Has P w K mg base "_law_shape" (d + 3) ["_law_left", "_law_tongue_here", "_law_deep", "_law_purse", "_law_room"] (spShape K (d + 1)) := by
  refine D.has (D.F.ok sc_law_shape (fun vs H Q E h => ?_) (fun cdv A outer s H vs Q E hr h => ?_))
  · obtain ⟨l, ca, rm, t, deep, purse, k, c, rfl, _⟩ := h
    rfl
  obtain ⟨l, ca, rm, t, deep, purse, k, c, rfl, t0, t1, hl, hrm, nrl, nrc, d0, d1, p0, hc, q⟩ := h
  have nd := sc_law_shape.nd
  refine ⟨_, (pss_cons (ps_augS (pv 4) pe_int get_list pe_int ip_sub set_list)
      (pss_cons (ps_set (i := 5) nd rfl (Or.inl rfl) (pe_fn G_law_draw (hr.mono (by omega)) rfl (pa_cons (pv 0) (pa_cons pe_int pa_nil))))
      (pss_cons (ps_if (pt_wk (PW.pt (pw_or (pt_cmpR op_eq (pv 2) pe_int (nomark _)) (pw_or (pt_cmpR op_lt (pe_ix ix_list (pv 4) pe_int (fun _ _ => rfl)) pe_int (nomark _)) (pw_or1 (pt_cmpR op_eq (pv 5) pe_int (nomark _))))))) (pss_cons (ps_if (pt_wk (PW.pt (pw_or (pt_cmpR op_eq (pv 3) pe_int (nomark _)) (pw_or1 (pt_cmpR op_eq (pe_fn G_law_draw (hr.mono (by omega)) rfl (pa_cons (pv 0) (pa_cons pe_int pa_nil))) pe_int (nomark _)))))) (pss_one (ps_ret (pe_tup (pa_cons pe_str (pa_cons (pe_tup pa_nil) pa_nil))))) pss_nil)
      (pss_one (ps_ret (pe_tup (pa_cons pe_str (pa_cons (pe_fn G_law_ones (hr.mono (by omega)) rfl (pa_cons (pv 0) (pa_cons (pv 1) pa_nil))) pa_nil)))))) pss_nil)
      (pss_cons (ps_if (pt_cmpR op_lt (pv 5) pe_int (nomark _)) (pss_one (ps_ret (pe_tup (pa_cons pe_str (pa_cons (pe_fn G_law_shape (hr.mono (by omega)) rfl (pa_cons (pv 0) (pa_cons (pv 1) (pa_cons (pe_op op_sub (pv 2) pe_int) (pa_cons (pv 3) (pa_cons (pv 4) pa_nil)))))) pa_nil))))) pss_nil)
      (pss_cons (ps_if (pt_cmpR op_lt (pv 5) pe_int (nomark _)) (pss_cons (ps_set (i := 8) nd rfl (Or.inl rfl) (pe_fn G_law_draw (hr.mono (by omega)) rfl (pa_cons (pv 0) (pa_cons pe_int pa_nil))))
      (pss_cons (ps_set (i := 9) nd rfl (Or.inl rfl) (pe_fn G_law_draw (hr.mono (by omega)) rfl (pa_cons (pv 0) (pa_cons (pe_op op_add (pv 8) pe_int) pa_nil))))
      (pss_one (ps_ret (pe_tup (pa_cons pe_str (pa_cons (pe_fn G_law_shape (hr.mono (by omega)) rfl (pa_cons (pv 0) (pa_cons (pv 1) (pa_cons (pe_op op_sub (pv 2) pe_int) (pa_cons (pe_op op_fdiv (pv 3) (pe_callB (call_max2 rfl) (by rfl) T.m_max (by decide +kernel) (pa_cons pe_int (pa_cons (pv 8) pa_nil)))) (pa_cons (pv 4) pa_nil)))))) (pa_cons (pv 9) (pa_cons (pv 8) pa_nil))))))))) pss_nil)
      (pss_cons (ps_set (i := 6) nd rfl (Or.inl rfl) (pe_lst pa_nil))
      (pss_cons (ps_for PassesOwn.never rfl (pi_range1 (by rfl) T.m_range (pa_cons (pe_ix ix_tup (pe_tup (pa_cons pe_int (pa_cons pe_int (pa_cons pe_int (pa_cons pe_int (pa_cons pe_int (pa_cons pe_int (pa_cons pe_int (pa_cons pe_int pa_nil))))))))) (pe_fn G_law_draw (hr.mono (by omega)) rfl (pa_cons (pv 0) (pa_cons pe_int pa_nil))) (fun _ _ => rfl)) pa_nil)) (pg_name (i := 7) nd rfl (Or.inl rfl)) (pss_one (ps_if (pt_cmpR op_gt (pe_ix ix_list (pv 4) pe_int (fun _ _ => rfl)) pe_int (nomark _)) (pss_cons (ps_set (i := 10) nd rfl (Or.inl rfl) (pe_fn G_law_shape (hr.mono (by omega)) rfl (pa_cons (pv 0) (pa_cons (pv 1) (pa_cons (pe_op op_sub (pv 2) pe_int) (pa_cons (pv 3) (pa_cons (pv 4) pa_nil)))))))
      (pss_cons (ps_aug (i := 3) nd rfl (Or.inl rfl) (pe_fn G_law_weight (hr.mono (by omega)) rfl (pa_cons (pv 10) pa_nil)) ip_sub)
      (pss_one (ps_expr (pe_bm PySem.F.plainAttrs_list PySem.F.slot_list_append PySem.F.type_list_append mt_append (pv 6) (pa_cons (pv 10) pa_nil)))))) pss_nil)))
      (pss_one (ps_ret (pe_tup (pa_cons (pe_ix ix_tup (pe_tup (pa_cons pe_str (pa_cons pe_str pa_nil))) (pe_op op_fdiv (pv 5) pe_int) (fun _ _ => rfl)) (pa_cons (pe_callTy call_tuple_of (by rfl) T.m_tuple (by decide +kernel) (pa_cons (pv 6) pa_nil)) pa_nil)))))))))))), ?_⟩
  have dr := draws_pos d
  simp only [draws] at hc q
  obtain ⟨el, eca, ncl⟩ := hl.there
  -- room[0] -= 1
  refine ⟨_, rfl, rm, _, _, _, rfl, rfl, SqL.of hrm, by decide, rfl, _, _, rfl, rfl, rm, _, _, _, rfl, rfl, hrm, rfl, ?_⟩
  have k1 : Keep (fun b => b = l ∨ b = rm) H (upd H rm (.lst [.int (k - 1)])) := Keep.put (S := fun b => b = l ∨ b = rm) (.inr rfl)
  have hrm1 : upd H rm (.lst [.int (k - 1)]) rm = some (.lst [.int (k - 1)]) := upd_same
  have hl1 : LeftAt (upd H rm (.lst [.int (k - 1)])) l ca c := hl.keep (Keep.put (S := fun b => b = rm) rfl) (fun z => nrl z.symm) (fun z => nrc z.symm)
  show tSeq _ _ _ _ (upd H rm (.lst [.int (k - 1)]))
  generalize upd H rm (.lst [.int (k - 1)]) = H1 at k1 hrm1 hl1 ⊢
  have lists : ∀ {H2 : Hp} {c2 : Nat} {k2 : Int}, LeftAt H2 l ca c2 → H2 rm = some (.lst [.int k2]) → Lists H2 (fun b => b = l ∨ b = rm) := fun h1 h2 b e => by
    rcases e with e | e
    · exact h1.lists b e
    · exact .inr ⟨_, by rw [e]; exact h2⟩
  have wide : ∀ {H2 H3 : Hp}, Keep (fun b => b = l) H2 H3 → Keep (fun b => b = l ∨ b = rm) H2 H3 := fun h => h.mono fun _ z => .inl z
  have tr : ∀ {H2 H3 : Hp}, Keep (fun b => b = l ∨ b = rm) H H2 → Keep (fun b => b = l ∨ b = rm) H2 H3 → Keep (fun b => b = l ∨ b = rm) H H3 := fun h1 h2 => h1.trans h2 fun _ _ z => z
  -- sort = draw(left, 9)
  refine ⟨_, rfl, l, ca, 9, c, rfl, hl1, by omega, by decide, by decide, fun n H2 n0 n1 kk2 hl2 => ?_⟩
  have k2 := tr k1 (wide kk2)
  have hrm2 := kk2.kp _ _ hrm1 nrl
  refine ⟨fun b H3 => H3 = H2 ∧ (b = false → deep ≠ 1 ∧ 1 ≤ k - 1 ∧ n ≠ 0), ?_, ?_⟩
  · refine ⟨_, rfl, rfl, _, rfl, ite2 (fun _ => ⟨rfl, fun z => nomatch z⟩) fun e1 => ?_⟩
    refine ⟨_, rfl, rm, _, _, _, rfl, rfl, SqL.of hrm2, rfl, _, _, rfl, rfl, _, rfl, ite2 (fun _ => ⟨rfl, fun z => nomatch z⟩) fun e2 => ?_⟩
    refine ⟨_, rfl, rfl, _, rfl, rfl, fun e3 => ⟨fun z => e1 (decide_eq_true (by rw [z])), ?_, fun z => ?_⟩⟩
    · have e2 : ¬ (k - 1 < 1) := fun z => e2 (decide_eq_true z)
      omega
    · rw [z] at e3; simp at e3
  rintro b H3 ⟨rfl, hb⟩
  refine ite2 (fun _ => ?_) (fun e => ?_)
  · -- a row without parts, or a one
    refine ⟨fun b H4 => Keep (fun b => b = l) H3 H4 ∧ LeftAt H4 l ca (c + 2) ∧ (b = false → purse ≠ 0), ?_, ?_⟩
    · refine ⟨_, rfl, rfl, _, rfl, ite2 (fun _ => ⟨Keep.refl H3, hl2.mono (by omega), fun z => nomatch z⟩) fun e1 => ?_⟩
      refine ⟨_, rfl, l, ca, 8, c + 1, rfl, hl2, by omega, by decide, by decide, fun r H4 r0 r1 kk4 hl4 => ⟨rfl, _, rfl, kk4, hl4, fun _ z => e1 (decide_eq_true (by rw [z]))⟩⟩
    rintro b H4 ⟨kk4, hl4, hp⟩
    have k4 := tr k2 (wide kk4)
    have hrm4 := kk4.kp _ _ hrm2 nrl
    refine ite2 (fun _ => ?_) (fun e => ?_)
    · refine ⟨Nat.zero_le _, fun a na => ⟨by show 2 ≤ sizeLine; decide, fun v nv => ?_⟩⟩
      have s5 := (same_new (o := .tup []) na).trans (same_new (o := .tup [.str "row", .ref a]) nv)
      refine q (.ref v) (.row []) (k - 1) _ ?_ (by simp [wf, wfs]) (by simp only [dep, deps]; omega) (by simp only [wt, wts]; omega) (tr k4 (Keep.of_same s5)) ((hl4.same s5).mono (by omega)) (s5 _ _ hrm4)
      unfold At
      exact ⟨v, a, [], rfl, SqT.of upd_same, SqT.of (by rw [upd_ne (ne_of_none upd_same nv), upd_same]), by unfold Ats; rfl⟩
    · have hp := hp (by simpa using e)
      refine ⟨_, rfl, _, rfl, l, ca, t, c + 2, rfl, hl4, by omega, t0, t1, fun z H5 kk5 hl5 => ⟨by show 2 ≤ sizeLine; decide, fun v nv => ?_⟩⟩
      have s6 := same_new (o := .tup [.str "one", .str z]) nv
      refine q (.ref v) .one (k - 1) _ ?_ (by simp [wf]) (by simp only [dep]; omega) (by simp only [wt]; omega) (tr (tr k4 (wide kk5)) (Keep.of_same s6)) ((hl5.same s6).mono (by omega)) (s6 _ _ (kk5.kp _ _ hrm4 nrl))
      unfold At
      exact ⟨v, z, rfl, SqT.of upd_same⟩
  obtain ⟨nd1, kr, n2⟩ := hb (by simpa using e)
  -- many
  refine ⟨_, rfl, _, _, rfl, rfl, _, rfl, ite2 (fun _ => ?_) (fun e3 => ?_)⟩
  · refine ⟨_, rfl, _, rfl, _, rfl, _, _, rfl, rfl, _, rfl, _, rfl, l, ca, rm, t, deep - 1, purse, k - 1, c + 1, rfl, t0, t1, hl2, hrm2, nrl, nrc, by omega, by omega, p0, by omega, fun v s k3 H4 a w1 dp wp kk4 hl4 hrm4 => ⟨by show 2 ≤ sizeLine; decide, fun p np => ?_⟩⟩
    have s5 := same_new (o := .tup [.str "many", v]) np
    refine q (.ref p) (.many s) k3 _ ?_ (by simpa only [wf] using w1) (by simp only [dep]; omega) (by simp only [wt]; omega) (tr (tr k2 kk4) (Keep.of_same s5)) ((hl4.same s5).mono (by omega)) (s5 _ _ hrm4)
    unfold At
    exact ⟨p, v, rfl, SqT.of upd_same, At.mono s5.kt _ _ a⟩
  -- times
  refine ⟨_, rfl, _, _, rfl, rfl, _, rfl, ite2 (fun _ => ?_) (fun e4 => ?_)⟩
  · refine ⟨_, rfl, l, ca, 5, c + 1, rfl, hl2, by omega, by decide, by decide, fun hi H4 hi0 hi1 kk4 hl4 => ?_⟩
    refine ⟨_, rfl, _, rfl, _, _, rfl, rfl, l, ca, hi + 1, c + 2, rfl, hl4, by omega, by omega, by omega, fun lo H5 lo0 lo1 kk5 hl5 => ?_⟩
    have k5 := tr (tr k2 (wide kk4)) (wide kk5)
    have hrm5 := kk5.kp _ _ (kk4.kp _ _ hrm2 nrl) nrl
    have mx : 0 < (if hi > 1 then hi else 1) ∧ (if hi > 1 then hi else 1) < 1073741824 := by split <;> omega
    refine ⟨_, rfl, _, rfl, _, rfl, _, _, rfl, rfl, _, rfl, _, rfl, _, _, rfl, _, _, rfl, rfl, mx, _, rfl, l, ca, rm, t, deep - 1, _, k - 1, c + 3, rfl, t0, t1, hl5, hrm5, nrl, nrc, by omega, by omega, Int.ediv_nonneg p0 (by omega), by omega, fun v s k3 H6 a w1 dp wp kk6 hl6 hrm6 => ⟨_, rfl, _, rfl, by show 4 ≤ sizeLine; decide, fun p np => ?_⟩⟩
    obtain ⟨lo', rfl⟩ := Int.eq_ofNat_of_zero_le lo0
    obtain ⟨hi', rfl⟩ := Int.eq_ofNat_of_zero_le hi0
    have s7 := same_new (o := .tup [.str "times", v, .int lo', .int hi']) np
    have wp' := purse_times p0 hi0 (by omega) wp
    refine q (.ref p) (.times s lo' hi') k3 _ ?_ (by simp only [wf]; exact ⟨by omega, by omega, w1⟩) (by simp only [dep]; omega) (by simp only [wt, Int.natCast_mul]; exact wp') (tr (tr k5 kk6) (Keep.of_same s7)) ((hl6.same s7).mono (by omega)) (s7 _ _ hrm6)
    unfold At
    exact ⟨p, v, rfl, SqT.of upd_same, At.mono s7.kt _ _ a⟩
  -- row, either
  refine ⟨Nat.zero_le _, fun pl npl => ?_⟩
  have s3 := same_new (o := .lst []) npl
  have epl : upd H3 pl (.lst []) pl = some (.lst []) := upd_same
  have npl0 : H pl = none := by
    cases z : H pl with
    | none => rfl
    | some o => exact absurd npl (k2.ex pl (some_ne z))
  have nlp : pl ≠ l := fun z => el (by rw [← z]; exact npl0)
  have nrp : pl ≠ rm := fun z => by rw [z, hrm] at npl0; cases npl0
  have ncp : pl ≠ ca := fun z => eca (by rw [← z]; exact npl0)
  have k3 := tr k2 (Keep.of_same s3)
  have hrm3 := s3 _ _ hrm2
  have hl3 := hl2.same s3
  generalize upd H3 pl (.lst []) = H4 at s3 epl k3 hrm3 hl3 ⊢
  refine ⟨by show 8 ≤ sizeLine; decide, fun pt npt => ?_⟩
  have s4 := same_new (o := .tup [V.int 1, V.int 2, V.int 2, V.int 3, V.int 3, V.int 4, V.int 5, V.int 6]) npt
  have ept : upd H4 pt (.tup [V.int 1, V.int 2, V.int 2, V.int 3, V.int 3, V.int 4, V.int 5, V.int 6]) pt = some (.tup [V.int 1, V.int 2, V.int 2, V.int 3, V.int 3, V.int 4, V.int 5, V.int 6]) := upd_same
  have k4 := tr k3 (Keep.of_same s4)
  have hrm4 := s4 _ _ hrm3
  have hl4 := hl3.same s4
  have epl4 := s4 _ _ epl
  generalize upd H4 pt (.tup [V.int 1, V.int 2, V.int 2, V.int 3, V.int 3, V.int 4, V.int 5, V.int 6]) = H5 at s4 ept k4 hrm4 hl4 epl4 ⊢
  refine ⟨_, rfl, l, ca, 8, c + 1, rfl, hl4, by omega, by decide, by decide, fun r H6 r0 r1 kk6 hl6 => ?_⟩
  obtain ⟨m, em, m0, m1⟩ := counts r0 r1
  have k6 := tr k4 (wide kk6)
  have hrm6 := kk6.kp _ _ hrm4 nrl
  have epl6 := kk6.kp _ _ epl4 nlp
  have ept6 := kk6.kt hl4.lists _ _ (SqT.of (K := K) ept)
  refine ⟨pt, _, _, _, rfl, rfl, ept6, em, m, rfl, by omega, by omega, for_range (n := m.toNat) (fun i σ H7 => ∃ (ss : List Sh) (us : List V) (left kr' : Int) (v7 v10 : Option V),
      σ = [some (.ref l), some (.str t), some (.int deep), some (.int left), some (.ref rm), some (.int n), some (.ref pl), v7, none, none, v10] ∧ H7 pl = some (.lst us) ∧ Ats K H7 ss us ∧ wfs ss ∧ (∀ p ∈ ss, (dep p : Int) ≤ deep - 1) ∧
      (wts ss : Int) + left = purse ∧ 0 ≤ left ∧ ss.length ≤ i ∧ (1 ≤ i → ss ≠ []) ∧ H7 rm = some (.lst [.int kr']) ∧ (i = 0 → 1 ≤ kr') ∧ Keep (fun b => b = l ∨ b = rm) H H7 ∧ LeftAt H7 l ca (c + 2 + i * draws d))
    ⟨[], [], purse, k - 1, none, none, rfl, epl6, by unfold Ats; rfl, by simp [wfs], (fun p hp => nomatch hp), by simp [wts], p0, Nat.zero_le _, (fun z => by omega), hrm6, fun _ => kr, k6, hl6.mono (by omega)⟩ ?_ ?_⟩
  · rintro i σ H7 hi ⟨ss, us, left, kr', v7, v10, rfl, epl7, as, wss, dss, eq, left0, ls, ne, hrm7, kr7, k7, hl7⟩
    refine ⟨_, rfl, rm, _, _, _, rfl, rfl, SqL.of hrm7, rfl, _, _, rfl, rfl, _, rfl, ite2 (fun e5 => ?_) (fun e5 => ?_)⟩
    · have room : i * draws d + draws d ≤ 6 * draws d := by
        rw [← Nat.succ_mul]
        exact Nat.mul_le_mul_right _ (by omega)
      refine ⟨_, rfl, _, rfl, _, rfl, _, _, rfl, rfl, _, rfl, _, rfl, l, ca, rm, t, deep - 1, left, kr', c + 2 + i * draws d, rfl, t0, t1, hl7, hrm7, nrl, nrc, by omega, by omega, left0, by omega, fun v s k8 H8 a w1 dp wp kk8 hl8 hrm8 => ?_⟩
      have epl8 := kk8.kp _ _ epl7 (by rintro (z | z); exact nlp z; exact nrp z)
      have as8 := Ats.mono (kk8.kt (lists hl7 hrm7)) _ _ as
      refine ⟨_, rfl, _, rfl, v, s, rfl, a, w1, by omega, fun H9 s9 => ⟨_, _, rfl, rfl, ?_⟩⟩
      have as9 := Ats.snoc (At.mono s9.kt _ _ a) (Ats.mono s9.kt _ _ as8)
      refine ⟨_, rfl, .inl ⟨rfl, _, SqL.of (s9 _ _ epl8)⟩, _, rfl, pl, us, v, rfl, rfl, s9 _ _ epl8, fits' (by have := as.length; omega), ?_⟩
      have put : Keep (fun b => b = pl) H9 (upd H9 pl (.lst (us ++ [v]))) := Keep.put (S := fun b => b = pl) rfl
      have kt10 := put.kt (K := K) (fun b e => .inr ⟨us, by rw [e]; exact s9 _ _ epl8⟩)
      have ew : wts (ss ++ [s]) = wts ss + wt s := by rw [wts_append]; simp [wts]
      refine ⟨ss ++ [s], us ++ [v], left - wt s, k8, _, _, rfl, upd_same, Ats.mono kt10 _ _ as9, wfs_snoc wss w1, ?_, by omega, by omega, by rw [List.length_append]; exact Nat.succ_le_succ ls, fun _ z => by simp at z, ?_, fun z => by omega, ?_, ?_⟩
      · intro p hp
        rcases List.mem_append.mp hp with hp | hp
        · exact dss p hp
        · rw [List.mem_singleton.mp hp]; exact dp
      · rw [upd_ne (Ne.symm nrp)]; exact s9 _ _ hrm8
      · exact (tr (tr k7 kk8) (Keep.of_same s9)).trans put fun b e z => absurd npl0 (by rw [← z]; exact e)
      · have e : (i + 1) * draws d = i * draws d + draws d := Nat.succ_mul _ _
        refine ((hl8.same s9).keep put (Ne.symm nlp) (Ne.symm ncp)).mono (by omega)
    · have i1 : i ≠ 0 := fun z => e5 (decide_eq_true (by have := kr7 z; omega))
      refine ⟨ss, us, left, kr', _, _, rfl, epl7, as, wss, dss, eq, left0, by omega, fun _ => ne (by omega), hrm7, fun z => by omega, k7, hl7.mono ?_⟩
      have e : (i + 1) * draws d = i * draws d + draws d := Nat.succ_mul _ _
      omega
  · rintro σ H7 ⟨ss, us, left, kr', v7, v10, rfl, epl7, as, wss, dss, eq, left0, ls, ne, hrm7, kr7, k7, hl7⟩
    have ne := ne (by omega)
    have room : m.toNat * draws d ≤ 6 * draws d := Nat.mul_le_mul_right _ (by omega)
    have dl := deps_le (n := deep - 1) (by omega) dss
    refine ⟨by show 2 ≤ sizeLine; decide, fun pq npq => ?_⟩
    have s8 := same_new (o := .tup [.str "row", .str "either"]) npq
    have epq : upd H7 pq (.tup [.str "row", .str "either"]) pq = some (.tup [.str "row", .str "either"]) := upd_same
    have epl8 := s8 _ _ epl7
    have as8 := Ats.mono (K := K) s8.kt _ _ as
    have hl8 := hl7.same s8
    have hrm8 := s8 _ _ hrm7
    have k8 := tr k7 (Keep.of_same s8)
    generalize upd H7 pq (.tup [.str "row", .str "either"]) = H8 at s8 epq epl8 as8 hl8 hrm8 k8 ⊢
    have n5 : 5 ≤ n := by
      have : ¬ (n < 5) := fun z => e4 (decide_eq_true z)
      omega
    obtain ⟨x, sh, ex, wsh, dsh, psh, mk⟩ : ∃ (x : Str) (sh : Sh), atI [V.str "row", V.str "either"] (n / 7) = some (V.str x) ∧ wf sh ∧ (dep sh : Int) ≤ deep ∧ (wt sh : Int) ≤ purse ∧
        (∀ (H9 : Hp) (p0 q0 : Addr), H9 p0 = some (.tup [.str x, .ref q0]) → H9 q0 = some (.tup us) → Ats K H9 ss us → At K H9 sh (.ref p0)) := by
      rcases (show n / 7 = 0 ∨ n / 7 = 1 by omega) with e | e
      · rw [e]
        refine ⟨"row", .row ss, rfl, by simp only [wf]; exact ⟨by omega, wss⟩, by simp only [dep]; omega, by simp only [wt]; omega, fun H9 p0 q0 h1 h2 h3 => ?_⟩
        unfold At
        exact ⟨p0, q0, us, rfl, SqT.of h1, SqT.of h2, h3⟩
      · rw [e]
        refine ⟨"either", .either ss, rfl, by simp only [wf]; exact ⟨ne, by omega, wss⟩, by simp only [dep]; omega, by simp only [wt]; omega, fun H9 p0 q0 h1 h2 h3 => ?_⟩
        unfold At
        exact ⟨p0, q0, us, rfl, SqT.of h1, SqT.of h2, h3⟩
    refine ⟨_, rfl, _, _, rfl, rfl, ⟨by decide, by decide⟩, pq, _, _, _, rfl, rfl, SqT.of epq, ex, _, rfl, pl, us, rfl, .inl ⟨SqL.of epl8, fun q0 nq0 => ⟨by show 2 ≤ sizeLine; decide, fun p0 np0 => ?_⟩⟩⟩
    have s10 := (same_new (o := .tup us) nq0).trans (same_new (o := .tup [.str x, .ref q0]) np0)
    refine q (.ref p0) sh kr' _ (mk _ p0 q0 upd_same (by rw [upd_ne (ne_of_none upd_same np0), upd_same]) (Ats.mono s10.kt _ _ as8)) wsh dsh psh (tr k8 (Keep.of_same s10)) ((hl8.same s10).mono (by omega)) (s10 _ _ hrm8)
end
end K12

/-! a course drawn: _law_course -/
namespace K12
open PySem L2
/-- so many draws, so many places at most -/
def cdraws : Nat → Nat
  | 0 => 4
  | d + 1 => 4 + 6 * cdraws d
def clen : Nat → Nat
  | 0 => 1
  | d + 1 => 1 + 6 * clen d
theorem clen_pos (d : Nat) : 1 ≤ clen d := by cases d <;> simp only [clen] <;> omega
theorem lays_few : ∀ {s : Sh}, wf s → (lays s).length ≤ 6
  | .one, _ => Nat.zero_le _
  | .row ps, w => by simp only [wf] at w; exact w.1
  | .either ps, w => by simp only [wf] at w; exact w.2.1
  | .many s, w => by show 1 ≤ 6; omega
  | .times s _ hi, w => by simp only [wf] at w; simp only [lays, List.length_replicate]; omega
theorem lays_kid : ∀ {s p : Sh}, p ∈ lays s → p ∈ kids s
  | .one, p, h => h
  | .row ps, p, h => h
  | .either ps, p, h => h
  | .many s, p, h => h
  | .times s _ hi, p, h => by rw [List.eq_of_mem_replicate h]; exact List.mem_singleton.mpr rfl
section
variable {P : Program} {w : World} {K : PySem.W.Frag} {mg : Str → Option Value} {base : Heap} {C : Addr}
def spCourse (K : PySem.W.Frag) (d : Nat) : Sp := fun vs H Q _ => ∃ (l ca : Addr) (v : V) (s : Sh) (a : Int) (c : Nat), vs = [.ref l, v, .int a] ∧ LeftAt H l ca c ∧ At K H s v ∧ wf s ∧ dep s ≤ d ∧ clen d ≤ 10000 ∧ c + cdraws d < most ∧
  ∀ (r : Addr) (ns : List Int) (H' : Hp), Keep (fun b => b = l) H H' → LeftAt H' l ca (c + cdraws d) → H r = none → H' r = some (.lst (ns.map V.int)) → ns.length ≤ clen d → Q (.ref r) H'
/-- parts as they are walked -/
structure Parts (K : PySem.W.Frag) (H : Hp) (s : Sh) (pp : Addr) (us : List V) (qs : List Sh) : Prop where
  t : SqT K H pp us
  a : Ats K H qs us
  few : qs.length ≤ 6
  sub : ∀ p ∈ qs, p ∈ kids s
theorem Parts.mono {H H' : Hp} {s : Sh} {pp : Addr} {us : List V} {qs : List Sh} (h : Parts K H s pp us qs) (k : KT K H H') : Parts K H' s pp us qs := ⟨k _ _ h.t, Ats.mono k _ _ h.a, h.few, h.sub⟩
theorem Parts.rep {H : Hp} {s s1 : Sh} {pp : Addr} {u : V} {n : Int} (h0 : 0 ≤ n) (h1 : n ≤ 4) (t : H pp = some (.tup (List.replicate n.toNat [u]).flatten)) (a : At K H s1 u) (e : s1 ∈ kids s) : Parts K H s pp (List.replicate n.toNat u) (List.replicate n.toNat s1) :=
  ⟨SqT.of (by rw [t, rep_flat]), Ats.rep a _, by rw [List.length_replicate]; omega, fun p hp => by rw [List.eq_of_mem_replicate hp]; exact e⟩
theorem sc_law_course : FnScope ["_law_left", "_law_shape_here", "_law_at", "_law_parts", "_law_chosen", "_law_row", "_law_k", "_law_part"] ["_law_left", "_law_shape_here", "_law_at"] (defScope s_law_course) := ⟨rfl, rfl, rfl, by decide +kernel, rfl, by decide +kernel, by decide +kernel⟩
set_option maxHeartbeats 2000000 in
theorem ok_law_course {f : Addr} {fd : FuncData} {d : Nat} (D : Def K mg "_law_course" s_law_course ["_law_left", "_law_shape_here", "_law_at"] f fd) (T : Txt K mg C)
    (G_law_draw : Has P w K mg base "_law_draw" 1 ["_law_left", "_law_many"] (spDraw K)) (G_law_laid : Has P w K mg base "_law_laid" 1 ["_law_shape_here"] (spLays K)) (G_law_weight : Has P w K mg base "_law_weight" (d + 1) ["_law_shape_here"] (spWeight K d))
    (G_law_course : Has P w K mg base "_law_course" (d + 2) ["_law_left", "_law_shape_here", "_law_at"] (spCourse K d)) : Has P w K mg base "_law_course" (d + 3) ["_law_left", "_law_shape_here", "_law_at"] (spCourse K (d + 1)) := by
  refine D.has (D.F.ok sc_law_course (fun vs H Q E h => ?_) (fun cdv A outer s H vs Q E hr h => ?_))
  · obtain ⟨l, ca, v, s, a, c, rfl, _⟩ := h
    rfl
  obtain ⟨l, ca, v, s, a, c, rfl, hl, hs, w1, dp, lz, hc, q⟩ := h
  have nd := sc_law_course.nd
  refine ⟨_, (pss_cons (ps_if (pt_cmpR op_eq (pe_ix ix_tup (pv 1) pe_int (fun _ _ => rfl)) pe_str (nomark _)) (pss_one (ps_ret (pe_lst (pa_cons (pe_op op_add (pv 2) pe_int) pa_nil)))) pss_nil)
      (pss_cons (ps_set (i := 3) nd rfl (Or.inl rfl) (pe_fn G_law_laid (hr.mono (by omega)) rfl (pa_cons (pv 1) pa_nil)))
      (pss_mid (ps_if (pt_cmpR op_eq (pe_ix ix_tup (pv 1) pe_int (fun _ _ => rfl)) pe_str (nomark _)) (pss_one (ps_set (i := 3) nd rfl (Or.inl rfl) (pe_op op_mulT (pe_tup (pa_cons (pe_ix ix_tup (pv 1) pe_int (fun _ _ => rfl)) pa_nil)) (pe_fn G_law_draw (hr.mono (by omega)) rfl (pa_cons (pv 0) (pa_cons pe_int pa_nil)))))) pss_nil)
      (pss_mid (ps_if (pt_cmpR op_eq (pe_ix ix_tup (pv 1) pe_int (fun _ _ => rfl)) pe_str (nomark _)) (pss_one (ps_set (i := 3) nd rfl (Or.inl rfl) (pe_op op_mulT (pe_tup (pa_cons (pe_ix ix_tup (pv 1) pe_int (fun _ _ => rfl)) pa_nil)) (pe_op op_add (pe_ix ix_tup (pv 1) pe_int (fun _ _ => rfl)) (pe_fn G_law_draw (hr.mono (by omega)) rfl (pa_cons (pv 0) (pa_cons (pe_op op_add (pe_op op_sub (pe_ix ix_tup (pv 1) pe_int (fun _ _ => rfl)) (pe_ix ix_tup (pv 1) pe_int (fun _ _ => rfl))) pe_int) pa_nil))))))) pss_nil)
      (pss_cons (ps_set (i := 4) nd rfl (Or.inl rfl) (pe_wk (pe_ifExp (pt_cmpR op_eq (pe_ix ix_tup (pv 1) pe_int (fun _ _ => rfl)) pe_str (nomark _)) (pe_fn G_law_draw (hr.mono (by omega)) rfl (pa_cons (pv 0) (pa_cons (pe_callB call_len_seq (by rfl) T.m_len (by decide +kernel) (pa_cons (pv 3) pa_nil)) pa_nil))) (pe_un un_neg pe_int))))
      (pss_cons (ps_set (i := 5) nd rfl (Or.inl rfl) (pe_lst pa_nil))
      (pss_cons (ps_for PassesOwn.never rfl (pi_enumT (by rfl) T.m_enumerate (pa_cons (pv 3) pa_nil)) (pg_tup (by rfl) (pgs_cons (pg_name (i := 6) nd rfl (Or.inl rfl)) (pgs_cons (pg_name (i := 7) nd rfl (Or.inl rfl)) pgs_nil))) (pss_mid (ps_if (pt_wk (PW.pt (pw_and (pt_cmpR op_gt (pe_fn G_law_weight (hr.mono (by omega)) rfl (pa_cons (pv 7) pa_nil)) pe_int (nomark _)) (pw_and1 (PW.pt (pw_or (pt_cmpR op_lt (pv 4) pe_int (nomark _)) (pw_or1 (pt_cmpR op_eq (pv 4) (pv 6) (nomark _))))))))) (pss_one (ps_aug (i := 5) nd rfl (Or.inl rfl) (pe_fn G_law_course (hr.mono (by omega)) rfl (pa_cons (pv 0) (pa_cons (pv 7) (pa_cons (pv 2) pa_nil)))) (ip_of iop_ext))) pss_nil)
      (pss_one (ps_if (pt_cmpR op_ne (pe_ix ix_tup (pv 1) pe_int (fun _ _ => rfl)) pe_str (nomark _)) (pss_one (ps_aug (i := 2) nd rfl (Or.inl rfl) (pe_fn G_law_weight (hr.mono (by omega)) rfl (pa_cons (pv 7) pa_nil)) ip_add)) pss_nil))))
      (pss_one (ps_ret (pv 5)))))))))), ?_⟩
  obtain ⟨el, eca, ncl⟩ := hl.there
  have cp := clen_pos d
  simp only [cdraws, clen] at hc q lz
  obtain ⟨p, r, rfl, t⟩ := hs.tag
  refine ⟨_, rfl, p, _, _, _, rfl, rfl, t, at0, rfl, _, rfl, if_tag (fun c0 => ?_) (fun c1 => ?_)⟩
  · refine ⟨_, rfl, _, _, rfl, rfl, by show 1 ≤ sizeLine; decide, fun x nx => ?_⟩
    exact q x [a + 1] _ (Keep.new nx) ((hl.same (same_new nx)).mono (by omega)) nx upd_same (by show 1 ≤ _; omega)
  have n1 : s ≠ .one := fun z => c1 (by rw [z]; rfl)
  refine ⟨_, rfl, _, s, rfl, hs, w1, n1, fun pp us H1 sm1 tp ap => ?_⟩
  have P1 : Parts K H1 s pp us (lays s) := ⟨tp, ap, lays_few w1, fun p hp => lays_kid hp⟩
  have k1 : Keep (fun b => b = l) H H1 := .of_same sm1
  have hl1 := hl.same sm1
  have kt : ∀ {H2 : Hp}, Keep (fun b => b = l) H H2 → KT K H H2 := fun k => k.kt hl.lists
  -- many
  refine ⟨fun σ H2 => ∃ pp us qs, σ = [some (.ref l), some (.ref p), some (.int a), some (.ref pp), none, none, none, none] ∧ Parts K H2 s pp us qs ∧ (tag s = "either" → qs ≠ []) ∧ Keep (fun b => b = l) H H2 ∧ LeftAt H2 l ca (c + 1), ?_, ?_⟩
  · refine ⟨_, rfl, p, _, _, _, rfl, rfl, kt k1 _ _ t, at0, rfl, _, rfl, if_tag (fun cm => ?_) (fun cm => ?_)⟩
    · obtain ⟨s1, rfl⟩ := tag_many cm
      have hs1 := At.mono (kt k1) _ _ hs
      unfold At at hs1
      obtain ⟨p', u, e, t1, a1⟩ := hs1
      obtain rfl := V.ref.inj e
      refine ⟨_, rfl, p, _, _, _, rfl, rfl, t1, at1, (by show 1 ≤ sizeLine; decide), fun p3 np3 => ?_⟩
      have s3 := same_new (o := .tup [u]) np3
      refine ⟨_, rfl, l, ca, 3, c, rfl, hl1.same s3, by omega, by decide, by decide, fun n H4 h0 h4 k4 l4 => ?_⟩
      have k4' := (k1.trans (Keep.of_same (S := fun b => b = l) s3) fun _ _ z => z).trans k4 fun _ _ z => z
      have t3 : H4 p3 = some (.tup [u]) := k4.kp _ _ upd_same (fun z => el (by
        have q1 := sm1.free np3
        rw [z] at q1; exact q1))
      have a4 := At.mono ((s3.kt).trans (k4.kt (hl1.same s3).lists)) _ _ a1
      refine ⟨p3, _, _, rfl, rfl, SqT.of t3, by simp, h0, by omega, by show 1 ≤ 1000; decide, fun e => ?_, fun p4 np4 => ?_⟩
      · subst e
        exact ⟨p3, [u], [s1], rfl, Parts.rep (n := 1) (by omega) (by omega) (by rw [t3]; rfl) a4 (List.mem_singleton.mpr rfl), fun z => by simp, k4', l4⟩
      · have s5 := same_new (o := .tup (List.replicate n.toNat [u]).flatten) np4
        refine ⟨p4, _, _, rfl, Parts.rep h0 (by omega) upd_same (At.mono s5.kt _ _ a4) (List.mem_singleton.mpr rfl), fun z => ?_, k4'.trans (Keep.of_same (S := fun b => b = l) s5) fun _ _ z => z, l4.same s5⟩
        obtain ⟨ps, z⟩ := tag_either z
        cases z
    · refine ⟨pp, us, _, rfl, P1, fun z => ?_, k1, hl1.mono (by omega)⟩
      obtain ⟨ps, rfl⟩ := tag_either z
      simp only [wf] at w1
      exact w1.1
  rintro σ H2 ⟨pp2, us2, qs2, rfl, P2, ne2, k2, hl2⟩
  -- times
  refine ⟨fun σ H3 => ∃ pp us qs, σ = [some (.ref l), some (.ref p), some (.int a), some (.ref pp), none, none, none, none] ∧ Parts K H3 s pp us qs ∧ (tag s = "either" → qs ≠ []) ∧ Keep (fun b => b = l) H H3 ∧ LeftAt H3 l ca (c + 2), ?_, ?_⟩
  · refine ⟨_, rfl, p, _, _, _, rfl, rfl, kt k2 _ _ t, at0, rfl, _, rfl, if_tag (fun cm => ?_) (fun cm => ⟨_, _, _, rfl, P2, ne2, k2, hl2.mono (by omega)⟩)⟩
    obtain ⟨s1, lo, hi, rfl⟩ := tag_times cm
    have hs1 := At.mono (kt k2) _ _ hs
    unfold At at hs1
    obtain ⟨p', u, e, t1, a1⟩ := hs1
    obtain rfl := V.ref.inj e
    simp only [wf] at w1
    refine ⟨_, rfl, p, _, _, _, rfl, rfl, t1, at1, (by show 1 ≤ sizeLine; decide), fun p3 np3 => ?_⟩
    have s3 := same_new (o := .tup [u]) np3
    refine ⟨_, rfl, p, _, _, _, rfl, rfl, s3.kt _ _ t1, at2, _, rfl, _, rfl, p, _, _, _, rfl, rfl, s3.kt _ _ t1, at3, _, rfl, p, _, _, _, rfl, rfl, s3.kt _ _ t1, at2, _, _, rfl, rfl, _, _, rfl, rfl,
      l, ca, (hi : Int) - lo + 1, c + 1, rfl, hl2.same s3, by omega, by omega, by omega, fun n H4 h0 h4 k4 l4 => ⟨_, _, rfl, rfl, ?_⟩⟩
    have k4' := (k2.trans (Keep.of_same (S := fun b => b = l) s3) fun _ _ z => z).trans k4 fun _ _ z => z
    have t3 : H4 p3 = some (.tup [u]) := k4.kp _ _ upd_same (fun z => k2.ex _ el (by rw [← z]; exact np3))
    have a4 := At.mono ((s3.kt).trans (k4.kt (hl2.same s3).lists)) _ _ a1
    refine ⟨p3, _, _, rfl, rfl, SqT.of t3, by simp, by omega, by omega, by show 1 ≤ 1000; decide, fun e => ?_, fun p4 np4 => ?_⟩
    · exact ⟨p3, [u], [s1], rfl, Parts.rep (n := 1) (by omega) (by omega) (by rw [t3]; rfl) a4 (List.mem_singleton.mpr rfl), fun z => by simp, k4', l4⟩
    · have s5 := same_new (o := .tup (List.replicate ((lo : Int) + n).toNat [u]).flatten) np4
      refine ⟨p4, _, _, rfl, Parts.rep (by omega) (by omega) upd_same (At.mono s5.kt _ _ a4) (List.mem_singleton.mpr rfl), fun z => ?_, k4'.trans (Keep.of_same (S := fun b => b = l) s5) fun _ _ z => z, l4.same s5⟩
      obtain ⟨ps, z⟩ := tag_either z
      cases z
  rintro σ H3 ⟨pp3, us3, qs3, rfl, P3, ne3, k3, hl3⟩
  -- chosen
  refine ⟨fun x H4 => ∃ ch : Int, x = .int ch ∧ Keep (fun b => b = l) H3 H4 ∧ LeftAt H4 l ca (c + 3), ?_, ?_⟩
  · refine ⟨_, rfl, p, _, _, _, rfl, rfl, kt k3 _ _ t, at0, rfl, _, rfl, if_tag (fun cm => ?_) (fun cm => ⟨_, rfl, _, rfl, Keep.refl H3, hl3.mono (by omega)⟩)⟩
    have ne := ne3 cm
    have e3 := P3.a.length
    have few := P3.few
    have pos : 0 < qs3.length := List.length_pos_iff.mpr ne
    refine ⟨_, rfl, _, rfl, pp3, _, rfl, .inr P3.t, l, ca, _, c + 2, rfl, hl3, by omega, by omega, by omega, fun n H4 h0 h4 k4 l4 => ⟨n, rfl, k4, l4⟩⟩
  rintro x H4 ⟨ch, rfl, kk4, hl4⟩
  have k4 := k3.trans kk4 fun _ _ z => z
  have P4 := P3.mono (kk4.kt hl3.lists)
  -- row = []
  refine ⟨Nat.zero_le _, fun rw' nrw => ?_⟩
  have s5 := same_new (o := .lst []) nrw
  have erw : upd H4 rw' (.lst []) rw' = some (.lst []) := upd_same
  have nrw0 : H rw' = none := by
    cases z : H rw' with
    | none => rfl
    | some o => exact absurd nrw (k4.ex rw' (some_ne z))
  have nlr : rw' ≠ l := fun z => el (by rw [← z]; exact nrw0)
  have ncr : rw' ≠ ca := fun z => eca (by rw [← z]; exact nrw0)
  have k5 := k4.trans (Keep.of_same (S := fun b => b = l) s5) fun _ _ z => z
  have P5 := P4.mono s5.kt
  have hl5 := hl4.same s5
  generalize upd H4 rw' (.lst []) = H5 at s5 erw k5 P5 hl5 ⊢
  have lu := P5.a.length
  have few := P5.few
  refine ⟨_, rfl, pp3, _, rfl, P5.t, for_it (walk_enumT (K := K) (a := pp3) (xs := us3)) (fun i σ H6 => ∃ (a' : Int) (v6 v7 : Option V) (ns : List Int), σ = [some (.ref l), some (.ref p), some (.int a'), some (.ref pp3), some (.int ch), some (.ref rw'), v6, v7] ∧
      H6 rw' = some (.lst (ns.map V.int)) ∧ ns.length ≤ i * clen d ∧ Parts K H6 s pp3 us3 qs3 ∧ Keep (fun b => b = l) H H6 ∧ LeftAt H6 l ca (c + 3 + i * cdraws d)) ⟨a, none, none, [], rfl, erw, Nat.zero_le _, P5, k5, hl5.mono (by omega)⟩ (fun i σ H6 _ ⟨_, _, _, _, _, _, _, P6, _⟩ => P6.t) ?_ ?_⟩
  · rintro i x σ H6 H7 hi ⟨a', v6, v7, ns, rfl, er6, ln, P6, k6, hl6⟩ ⟨T7, y, u, rfl, nT, rfl, ey, eu⟩
    obtain rfl : y = .int (i : Nat) := (Option.some.inj ey).symm
    have s7 := same_new (o := .tup [.int (i : Nat), u]) nT
    obtain ⟨s1, es1, a1⟩ := P6.a.get eu
    have m1 := List.mem_of_getElem? es1
    have mk := P6.sub _ m1
    have wf1 := kids_wf w1 mk
    have dep1 := kids_dep mk
    have lt6 : i < 6 := by omega
    refine ⟨T7, _, rfl, SqT.of upd_same, rfl, _, _, rfl, _, _, rfl, rfl, ?_⟩
    have er7 := s7 _ _ er6
    have a7 := At.mono (K := K) s7.kt _ _ a1
    have P7 := P6.mono (K := K) s7.kt
    have k7 := k6.trans (Keep.of_same (S := fun b => b = l) s7) fun _ _ z => z
    have hl7 := hl6.same s7
    show tMid _ _ _ _ (upd H6 T7 (.tup [.int (i : Nat), u]))
    generalize upd H6 T7 (.tup [.int (i : Nat), u]) = H7 at s7 er7 a7 P7 k7 hl7 ⊢
    refine ⟨fun σ H8 => ∃ ns : List Int, σ = [some (.ref l), some (.ref p), some (.int a'), some (.ref pp3), some (.int ch), some (.ref rw'), some (.int (i : Nat)), some u] ∧ H8 rw' = some (.lst (ns.map V.int)) ∧ ns.length ≤ (i + 1) * clen d ∧
      At K H8 s1 u ∧ Parts K H8 s pp3 us3 qs3 ∧ Keep (fun b => b = l) H H8 ∧ LeftAt H8 l ca (c + 3 + (i + 1) * cdraws d), ?_, ?_⟩
    · have e1 : (i + 1) * clen d = i * clen d + clen d := Nat.succ_mul _ _
      have e2 : (i + 1) * cdraws d = i * cdraws d + cdraws d := Nat.succ_mul _ _
      have b1 : (i + 1) * clen d ≤ 6 * clen d := Nat.mul_le_mul_right _ (by omega)
      have b2 : (i + 1) * cdraws d ≤ 6 * cdraws d := Nat.mul_le_mul_right _ (by omega)
      refine ⟨fun b H8 => Same H7 H8, ?_, ?_⟩
      · refine ⟨_, rfl, u, s1, rfl, a7, wf1, by omega, fun H8 s8 => ⟨_, _, rfl, rfl, _, rfl, ite2 (fun _ => ?_) (fun _ => s8)⟩⟩
        exact ⟨_, rfl, _, _, rfl, rfl, _, rfl, ite2 (fun _ => s8) fun _ => ⟨_, rfl, _, rfl, rfl, _, rfl, s8⟩⟩
      rintro b H8 s8
      refine ite2 (fun _ => ?_) (fun _ => ⟨ns, rfl, s8 _ _ er7, by omega, At.mono s8.kt _ _ a7, P7.mono s8.kt, k7.trans (Keep.of_same (S := fun b => b = l) s8) fun _ _ z => z, (hl7.same s8).mono (by omega)⟩)
      refine ⟨_, rfl, _, rfl, _, rfl, _, rfl, l, ca, u, s1, a', c + 3 + i * cdraws d, rfl, hl7.same s8, At.mono s8.kt _ _ a7, wf1, by omega, by omega, by omega, fun x ms H9 k9 l9 nx ex lm => ?_⟩
      have er9 := k9.kp _ _ (s8 _ _ er7) nlr
      have kt9 := (s8.kt (K := K)).trans (k9.kt (hl7.same s8).lists)
      refine ⟨rw', x, _, _, rfl, rfl, er9, ex, by simp only [List.length_map]; exact fits (by omega), ?_⟩
      have put : Keep (fun b => b = rw') H9 (upd H9 rw' (.lst (ns.map V.int ++ ms.map V.int))) := Keep.put (S := fun b => b = rw') rfl
      have ktp := put.kt (K := K) (fun b e => .inr ⟨ns.map V.int, by rw [show b = rw' from e]; exact er9⟩)
      refine ⟨ns ++ ms, rfl, by rw [upd_same, List.map_append], by rw [List.length_append]; omega, At.mono (kt9.trans ktp) _ _ a7, P7.mono (kt9.trans ktp), ?_, ?_⟩
      · refine ((k7.trans (Keep.of_same (S := fun b => b = l) s8) fun _ _ z => z).trans k9 fun _ _ z => z).trans put fun b e z => absurd nrw0 (by rw [← z]; exact e)
      · exact (l9.keep put (Ne.symm nlr) (Ne.symm ncr)).mono (by omega)
    rintro σ H8 ⟨ns8, rfl, er8, ln8, a8, P8, k8, hl8⟩
    refine ⟨_, rfl, p, _, _, _, rfl, rfl, kt k8 _ _ t, at0, rfl, _, rfl, if_ntag (fun _ => ?_) (fun _ => ⟨a', _, _, ns8, rfl, er8, ln8, P8, k8, hl8⟩)⟩
    refine ⟨_, rfl, _, rfl, u, s1, rfl, a8, wf1, by omega, fun H9 s9 => ⟨_, _, rfl, rfl, ?_⟩⟩
    exact ⟨_, _, _, ns8, rfl, s9 _ _ er8, ln8, P8.mono s9.kt, k8.trans (Keep.of_same (S := fun b => b = l) s9) fun _ _ z => z, hl8.same s9⟩
  · rintro σ H6 ⟨a', v6, v7, ns, rfl, er6, ln, P6, k6, hl6⟩
    have b1 : us3.length * clen d ≤ 6 * clen d := Nat.mul_le_mul_right _ (by omega)
    have b2 : us3.length * cdraws d ≤ 6 * cdraws d := Nat.mul_le_mul_right _ (by omega)
    exact ⟨_, rfl, q rw' ns H6 k6 (hl6.mono (by omega)) nrw0 er6 (by omega)⟩
end
end K12

/-! rows of places: _law_bent, _law_gone, _law_along -/
namespace K12
open PySem L2
/-! ### the spread as it is told -/
/-- from place x on along the nexts N to one of es -/
def Go (N : Int → List Int) (es : List Int) : Int → List Int → Prop
  | x, [] => x ∈ es
  | x, y :: r => y ∈ N x ∧ Go N es y r
structure Told (K : PySem.W.Frag) (H : Hp) (t ta tb tc : Addr) (ms : List V) (rs : List Addr) (N : Int → List Int) (es : List Int) (s : Sh) : Prop where
  t : SqT K H t [.ref ta, .ref tb, .ref tc]
  a : SqT K H ta ms
  la : ms.length = 1 + wt s
  b : SqT K H tb (rs.map V.ref)
  lb : rs.length = 1 + wt s
  row : ∀ (i : Nat) (r : Addr), rs[i]? = some r → SqT K H r ((N i).map V.int)
  c : SqT K H tc (es.map V.int)
  inn : ∀ x y, y ∈ N x → 1 ≤ y ∧ y ≤ wt s
  few : ∀ x, (N x).length ≤ 1000
  ok : ∀ r : List Int, Go N es 0 r ↔ L s 0 r
def SpreadAt (K : PySem.W.Frag) (H : Hp) (t : Addr) (s : Sh) : Prop := ∃ ta tb tc ms rs N es, Told K H t ta tb tc ms rs N es s
theorem Told.mono {K : PySem.W.Frag} {H H' : Hp} {t ta tb tc : Addr} {ms : List V} {rs : List Addr} {N : Int → List Int} {es : List Int} {s : Sh} (h : Told K H t ta tb tc ms rs N es s) (k : KT K H H') : Told K H' t ta tb tc ms rs N es s :=
  ⟨k _ _ h.t, k _ _ h.a, h.la, k _ _ h.b, h.lb, fun i r e => k _ _ (h.row i r e), k _ _ h.c, h.inn, h.few, h.ok⟩
theorem SpreadAt.mono {K : PySem.W.Frag} {H H' : Hp} {t : Addr} {s : Sh} (h : SpreadAt K H t s) (k : KT K H H') : SpreadAt K H' t s := let ⟨a, b, c, d, e, f, g, q⟩ := h; ⟨a, b, c, d, e, f, g, q.mono k⟩
/-- the row of nexts at a place -/
theorem Told.at_ {K : PySem.W.Frag} {H : Hp} {t ta tb tc : Addr} {ms : List V} {rs : List Addr} {N : Int → List Int} {es : List Int} {s : Sh} (h : Told K H t ta tb tc ms rs N es s) {x : Int} (h0 : 0 ≤ x) (h1 : x ≤ wt s) :
    ∃ r, atI (rs.map V.ref) x = some (.ref r) ∧ SqT K H r ((N x).map V.int) := by
  have lt : x.toNat < rs.length := by rw [h.lb]; omega
  have e : x = ((x.toNat : Nat) : Int) := by omega
  have q := h.row x.toNat rs[x.toNat] (List.getElem?_eq_getElem lt)
  rw [← e] at q
  exact ⟨rs[x.toNat], at_of e (by rw [List.getElem?_map, List.getElem?_eq_getElem lt]; rfl), q⟩
theorem ints_at {ns : List Int} {r : Int} (h0 : 0 ≤ r) (h1 : r < ns.length) : ∃ z, atI (ns.map V.int) r = some (.int z) ∧ z ∈ ns := by
  have lt : r.toNat < ns.length := by omega
  exact ⟨ns[r.toNat], at_of (j := r.toNat) (by omega) (by rw [List.getElem?_map, List.getElem?_eq_getElem lt]; rfl), List.getElem_mem lt⟩
theorem inV_ints (z : Int) (ns : List Int) : inV (.int z) (ns.map V.int) = decide (z ∈ ns) := by
  induction ns with
  | nil => rfl
  | cons n ns ih =>
    have e : inV (.int z) ((n :: ns).map V.int) = ((n == z) || inV (.int z) (ns.map V.int)) := rfl
    rw [e, ih]
    by_cases c : z = n
    · subst c; simp
    · have c' : (n == z) = false := by simpa using fun q => c (Eq.symm q)
      simp [c, c']
theorem flat_ints (ns : List Int) : (ns.map V.int).all flatV = true := by
  induction ns with
  | nil => rfl
  | cons n ns ih => rw [List.map_cons, List.all_cons, ih]; rfl
theorem shape_ints : ∀ ns : List Int, PyData.canLayAll0 (ns.map PyData.int) = true ∧ PyData.depthAll (ns.map PyData.int) = 0
  | [] => ⟨by simp [PyData.canLayAll0], by simp [PyData.depthAll]⟩
  | n :: ns => by
    have ih := shape_ints ns
    simp [PyData.canLayAll0, PyData.depthAll, PyData.canLay0, PyData.depth, ih.1, ih.2]
theorem shaped_tup (ns : List Int) : SeqAt.shaped (.tuple (ns.map PyData.int)) = true := by
  unfold SeqAt.shaped
  simp [PyData.canLay0, PyData.depth, (shape_ints ns).1, (shape_ints ns).2]
theorem dp_ints {K : PySem.W.Frag} {H : Hp} : ∀ ns : List Int, DpAll K H (ns.map V.int) (ns.map PyData.int)
  | [] => .nil
  | n :: ns => .cons (.int n) (dp_ints ns)
theorem eqv_nil (ns : List Int) : PyData.eqv (.tuple (ns.map PyData.int)) (.tuple (([] : List Int).map PyData.int)) = decide (ns = []) := by
  cases ns with
  | nil => simp [PyData.eqv, PyData.eqvAll]
  | cons n ns => simp [PyData.eqv, PyData.eqvAll]
/-- a slice of a list of ints -/
theorem cut_ints (ns : List Int) (lo hi : Option Int) : ∃ ms : List Int, cutV (ns.map V.int) lo hi = ms.map V.int ∧ ms.length ≤ ns.length := by
  refine ⟨(ns.drop (HT.sIx ns.length 0 lo)).take (HT.sIx ns.length ns.length hi - HT.sIx ns.length 0 lo), ?_, ?_⟩
  · unfold cutV
    rw [List.length_map, ← List.map_drop, ← List.map_take]
  · rw [List.length_take, List.length_drop]; omega
section
variable {P : Program} {w : World} {K : PySem.W.Frag} {mg : Str → Option Value} {base : Heap} {C : Addr}
/-! ### _law_along -/
def spAlong (K : PySem.W.Frag) : Sp := fun vs H Q _ => ∃ (t rw' : Addr) (s : Sh) (ns : List Int), vs = [.ref t, .ref rw'] ∧ SpreadAt K H t s ∧ SqL K H rw' (ns.map V.int) ∧ ∀ b : Bool, (b = true ↔ L s 0 ns) → Q (.bl b) H
theorem sc_law_along : FnScope ["_law_told", "_law_row", "_law_here", "_law_place"] ["_law_told", "_law_row"] (defScope s_law_along) := ⟨rfl, rfl, rfl, by decide +kernel, rfl, by decide +kernel, by decide +kernel⟩
theorem ok_law_along {f : Addr} {fd : FuncData} (D : Def K mg "_law_along" s_law_along ["_law_told", "_law_row"] f fd) (T : Txt K mg C) : Has P w K mg base "_law_along" 1 ["_law_told", "_law_row"] (spAlong K) := by
  refine D.has (D.F.ok sc_law_along (fun vs H Q E h => ?_) (fun cdv A outer s H vs Q E hr h => ?_))
  · obtain ⟨t, rw', s, ns, rfl, _⟩ := h
    rfl
  obtain ⟨t, rw', s, ns, rfl, ⟨ta, tb, tc, ms, rs, N, es, h⟩, hS, q⟩ := h
  have nd := sc_law_along.nd
  refine ⟨_, (pss_cons (ps_set (i := 2) nd rfl (Or.inl rfl) pe_int)
      (pss_cons (ps_for PassesOwn.never rfl (pi_list (pv 1)) (pg_name (i := 3) nd rfl (Or.inl rfl)) (pss_cons (ps_if (pt_cmpR op_notIn_seq (pv 3) (pe_ix ix_tup (pe_ix ix_tup (pv 0) pe_int (fun _ _ => rfl)) (pv 2) (fun _ _ => rfl)) rfl) (pss_one (ps_ret pe_bl)) pss_nil)
      (pss_one (ps_set (i := 2) nd rfl (Or.inl rfl) (pv 3)))))
      (pss_one (ps_ret (pe_cmpR op_in_seq (pv 2) (pe_ix ix_tup (pv 0) pe_int (fun _ _ => rfl)) rfl))))), ?_⟩
  refine ⟨_, rfl, rw', rfl, ⟨_, hS⟩, for_list (K := K) (a := rw') (xs := ns.map V.int) (fun i σ H2 => H2 = H ∧ ∃ (x : Int) (v3 : Option V), σ = [some (.ref t), some (.ref rw'), some (.int x), v3] ∧ 0 ≤ x ∧ x ≤ wt s ∧ (Go N es 0 ns ↔ Go N es x (ns.drop i)))
    ⟨rfl, 0, none, rfl, by omega, by omega, Iff.rfl⟩ (fun i σ H2 _ ⟨e, _⟩ => by rw [e]; exact hS) ?_ ?_⟩
  · rintro i x σ H2 hx ⟨rfl, y, v3, rfl, y0, y1, hg⟩
    rw [List.getElem?_map] at hx
    obtain ⟨z, hz, rfl⟩ := Option.map_eq_some_iff.mp hx
    obtain ⟨lt, ez⟩ := List.getElem?_eq_some_iff.mp hz
    obtain ⟨r, ar, tr⟩ := h.at_ y0 y1
    have ed : ns.drop i = z :: ns.drop (i + 1) := by rw [List.drop_eq_getElem_cons lt, ez]
    rw [ed] at hg
    refine ⟨_, rfl, _, rfl, t, _, _, _, rfl, rfl, h.t, at1, _, rfl, tb, _, _, _, rfl, rfl, h.b, ar, r, _, rfl, .inr tr, rfl, flat_ints _, _, rfl, ?_⟩
    rw [inV_ints]
    refine ite2 (fun e => ?_) (fun e => ?_)
    · have no : ¬ z ∈ N y := by simpa using e
      exact q false ⟨(fun z => nomatch z), fun z => (no ((hg.mp ((h.ok ns).mpr z)).1)).elim⟩
    · have yes : z ∈ N y := by simpa using e
      have b := h.inn y z yes
      exact ⟨_, rfl, rfl, z, _, rfl, by omega, b.2, hg.trans ⟨fun g => g.2, fun g => ⟨yes, g⟩⟩⟩
  · rintro σ H2 ⟨rfl, y, v3, rfl, y0, y1, hg⟩
    refine ⟨_, rfl, _, rfl, t, _, _, _, rfl, rfl, h.t, at2, tc, _, rfl, .inr h.c, rfl, flat_ints _, ?_⟩
    rw [if_neg Bool.false_ne_true, inV_ints]
    have ed : ns.drop (ns.map V.int).length = [] := by rw [List.length_map]; exact List.drop_length
    rw [ed] at hg
    exact q _ (by rw [decide_eq_true_eq, ← h.ok ns]; exact hg.symm)
/-! ### _law_bent -/
def spBent (K : PySem.W.Frag) : Sp := fun vs H Q _ => ∃ (l ca rw' : Addr) (ns : List Int) (m : Int) (c : Nat), vs = [.ref l, .ref rw', .int m] ∧ LeftAt H l ca c ∧ H rw' = some (.lst (ns.map V.int)) ∧ rw' ≠ l ∧ ns.length ≤ 10 ∧ 1 ≤ m ∧ m ≤ 10 ∧ c + 4 < most ∧
  ∀ (r : Addr) (ms : List Int) (H' : Hp), Keep (fun b => b = l) H H' → LeftAt H' l ca (c + 4) → H r = none → H' r = some (.lst (ms.map V.int)) → ms.length ≤ 30 → Q (.ref r) H'
theorem sc_law_bent : FnScope ["_law_left", "_law_row", "_law_many", "_law_at", "_law_sort"] ["_law_left", "_law_row", "_law_many"] (defScope s_law_bent) := ⟨rfl, rfl, rfl, by decide +kernel, rfl, by decide +kernel, by decide +kernel⟩
theorem ok_law_bent {f : Addr} {fd : FuncData} (D : Def K mg "_law_bent" s_law_bent ["_law_left", "_law_row", "_law_many"] f fd) (T : Txt K mg C) (G_law_draw : Has P w K mg base "_law_draw" 1 ["_law_left", "_law_many"] (spDraw K)) : Has P w K mg base "_law_bent" 2 ["_law_left", "_law_row", "_law_many"] (spBent K) := by
  refine D.has (D.F.ok sc_law_bent (fun vs H Q E h => ?_) (fun cdv A outer s H vs Q E hr h => ?_))
  · obtain ⟨l, ca, rw', ns, m, c, rfl, _⟩ := h
    rfl
  obtain ⟨l, ca, rw', ns, m, c, rfl, hl, hrw, nrl, ln, m0, m1, hc, q⟩ := h
  have nd := sc_law_bent.nd
  refine ⟨_, (pss_cons (ps_set (i := 3) nd rfl (Or.inl rfl) (pe_fn G_law_draw (hr.mono (by omega)) rfl (pa_cons (pv 0) (pa_cons (pe_op op_add (pe_callB call_len_seq (by rfl) T.m_len (by decide +kernel) (pa_cons (pv 1) pa_nil)) pe_int) pa_nil))))
      (pss_cons (ps_set (i := 4) nd rfl (Or.inl rfl) (pe_fn G_law_draw (hr.mono (by omega)) rfl (pa_cons (pv 0) (pa_cons pe_int pa_nil))))
      (pss_cons (ps_if (pt_cmpR op_eq (pv 4) pe_int (nomark _)) (pss_one (ps_ret (pe_op op_cat (pe_slice sl_list (pv 1) po_none (po_some (pv 3))) (pe_slice sl_list (pv 1) (po_some (pe_op op_add (pv 3) pe_int)) po_none)))) pss_nil)
      (pss_cons (ps_if (pt_cmpR op_eq (pv 4) pe_int (nomark _)) (pss_one (ps_ret (pe_op op_cat (pe_slice sl_list (pv 1) po_none (po_some (pv 3))) (pe_slice sl_list (pv 1) (po_some (pe_callB (call_max2 rfl) (by rfl) T.m_max (by decide +kernel) (pa_cons pe_int (pa_cons (pe_op op_sub (pv 3) pe_int) pa_nil)))) po_none)))) pss_nil)
      (pss_one (ps_ret (pe_op op_cat (pe_op op_cat (pe_slice sl_list (pv 1) po_none (po_some (pv 3))) (pe_lst (pa_cons (pe_op op_add pe_int (pe_fn G_law_draw (hr.mono (by omega)) rfl (pa_cons (pv 0) (pa_cons (pv 2) pa_nil)))) pa_nil))) (pe_slice sl_list (pv 1) (po_some (pe_op op_add (pv 3) (pe_op op_fdiv (pv 4) pe_int))) po_none)))))))), ?_⟩
  refine ⟨_, rfl, _, rfl, rw', _, rfl, .inl (SqL.of hrw), _, _, rfl, rfl, l, ca, _, c, rfl, hl, by omega, by omega, by rw [List.length_map]; omega, fun at' H1 a0 a1 k1 l1 => ?_⟩
  have h1 := k1.kp _ _ hrw nrl
  refine ⟨_, rfl, l, ca, 4, c + 1, rfl, l1, by omega, by decide, by decide, fun so H2 s0 s1 k2 l2 => ?_⟩
  have h2 := k2.kp _ _ h1 nrl
  have k := k1.trans k2 fun _ _ z => z
  have add : ∀ {H3 : Hp} {p1 p2 : Addr} {x1 x2 : List Int}, Keep (fun b => b = l) H H3 → LeftAt H3 l ca (c + 4) → H3 p1 = some (.lst (x1.map V.int)) → H3 p2 = some (.lst (x2.map V.int)) → x1.length + x2.length ≤ 30 →
      ∃ l' b' xs zs, V.ref p1 = V.ref l' ∧ V.ref p2 = V.ref b' ∧ H3 l' = some (.lst xs) ∧ H3 b' = some (.lst zs) ∧ xs.length + zs.length ≤ sizeLine ∧ ∀ p, H3 p = none → Q (.ref p) (upd H3 p (.lst (xs ++ zs))) := by
    intro H3 p1 p2 x1 x2 k3 l3 e1 e2 lx
    refine ⟨p1, p2, _, _, rfl, rfl, e1, e2, fits (by simp only [List.length_map]; omega), fun p np => ?_⟩
    refine q p (x1 ++ x2) _ (k3.trans (Keep.new (S := fun b => b = l) np) fun _ _ z => z) (l3.same (same_new np)) ?_ (by rw [upd_same, List.map_append]) (by rw [List.length_append]; exact lx)
    cases z : H p with
    | none => rfl
    | some o => exact absurd np (k3.ex p (some_ne z))
  obtain ⟨x1, e1, z1⟩ := cut_ints ns none (some at')
  -- a slice more
  have two : ∀ {H3 H4 : Hp} {p1 p2 : Addr} {lo hi : Option Int}, Keep (fun b => b = l) H H3 → LeftAt H3 l ca (c + 4) → H3 p1 = some (.lst (x1.map V.int)) → H3 p2 = none → H4 = upd H3 p2 (.lst (cutV (ns.map V.int) lo hi)) →
      ∃ l' b' xs zs, V.ref p1 = V.ref l' ∧ V.ref p2 = V.ref b' ∧ H4 l' = some (.lst xs) ∧ H4 b' = some (.lst zs) ∧ xs.length + zs.length ≤ sizeLine ∧ ∀ p, H4 p = none → Q (.ref p) (upd H4 p (.lst (xs ++ zs))) := by
    intro H3 H4 p1 p2 lo hi k3 l3 e3 np2 e4
    subst e4
    obtain ⟨x2, e2, z2⟩ := cut_ints ns lo hi
    exact add (k3.trans (Keep.new (S := fun b => b = l) np2) fun _ _ z => z) (l3.same (same_new np2)) (by rw [upd_ne (ne_of_none e3 np2)]; exact e3) (by rw [upd_same, e2]) (by omega)
  refine ⟨_, rfl, rfl, _, rfl, ite2 (fun _ => ?_) (fun _ => ?_)⟩
  · refine ⟨_, rfl, _, rfl, _, rfl, rw', _, rfl, SqL.of h2, fun p1 np1 => ?_⟩
    have s3 := same_new (o := .lst (cutV (ns.map V.int) none (some at'))) np1
    refine ⟨_, rfl, _, rfl, _, _, rfl, rfl, _, rfl, rw', _, rfl, SqL.of (s3 _ _ h2), fun p2 np2 => ?_⟩
    exact two (k.trans (Keep.of_same (S := fun b => b = l) s3) fun _ _ z => z) ((l2.same s3).mono (by omega)) (by rw [upd_same, e1]) np2 rfl
  refine ⟨_, rfl, rfl, _, rfl, ite2 (fun _ => ?_) (fun _ => ?_)⟩
  · refine ⟨_, rfl, _, rfl, _, rfl, rw', _, rfl, SqL.of h2, fun p1 np1 => ?_⟩
    have s3 := same_new (o := .lst (cutV (ns.map V.int) none (some at'))) np1
    refine ⟨_, rfl, _, rfl, _, _, rfl, rfl, _, _, rfl, _, rfl, rw', _, rfl, SqL.of (s3 _ _ h2), fun p2 np2 => ?_⟩
    exact two (k.trans (Keep.of_same (S := fun b => b = l) s3) fun _ _ z => z) ((l2.same s3).mono (by omega)) (by rw [upd_same, e1]) np2 rfl
  · refine ⟨_, rfl, _, rfl, _, rfl, rw', _, rfl, SqL.of h2, fun p1 np1 => ?_⟩
    have s3 := same_new (o := .lst (cutV (ns.map V.int) none (some at'))) np1
    have n1l : p1 ≠ l := fun z => by
      obtain ⟨y, _⟩ := l2.there
      exact y (by rw [← z]; exact np1)
    refine ⟨_, rfl, _, rfl, l, ca, m, c + 2, rfl, l2.same s3, by omega, by omega, by omega, fun r H4 r0 r1 k4 l4 => ⟨_, _, rfl, rfl, by show 1 ≤ sizeLine; decide, fun p2 np2 => ?_⟩⟩
    have ep1 := k4.kp _ _ (show upd H2 p1 _ p1 = some (.lst (x1.map V.int)) by rw [upd_same, e1]) n1l
    have h4 := k4.kp _ _ (s3 _ _ h2) nrl
    have s5 := same_new (o := .lst [V.int (1 + r)]) np2
    refine ⟨p1, p2, _, _, rfl, rfl, s5 _ _ ep1, upd_same, fits (by simp only [List.length_map, List.length_singleton]; omega), fun p3 np3 => ?_⟩
    have s6 := same_new (o := .lst (x1.map V.int ++ [V.int (1 + r)])) np3
    refine ⟨_, rfl, _, rfl, _, rfl, _, _, rfl, rfl, ⟨by decide, by decide⟩, _, _, rfl, rfl, _, rfl, rw', _, rfl, SqL.of (s6 _ _ (s5 _ _ h4)), fun p4 np4 => ?_⟩
    obtain ⟨x2, e2, z2⟩ := cut_ints ns (some (at' + so / 3)) none
    have k6 := ((k.trans (Keep.of_same (S := fun b => b = l) s3) fun _ _ z => z).trans k4 fun _ _ z => z).trans (Keep.of_same (S := fun b => b = l) (s5.trans s6)) fun _ _ z => z
    have l6 := l4.same (s5.trans s6)
    exact add (x1 := x1 ++ [1 + r]) (k6.trans (Keep.new (S := fun b => b = l) np4) fun _ _ z => z) ((l6.same (same_new np4)).mono (by omega)) (by rw [upd_ne (ne_of_none upd_same np4), upd_same, List.map_append]; rfl) (by rw [upd_same, e2]) (by rw [List.length_append, List.length_singleton]; omega)
end
end K12

/-! a row gone along the spread: _law_gone -/
namespace K12
open PySem L2
section
variable {P : Program} {w : World} {K : PySem.W.Frag} {mg : Str → Option Value} {base : Heap} {C : Addr}
def spGone (K : PySem.W.Frag) : Sp := fun vs H Q _ => ∃ (l ca t : Addr) (s : Sh) (c : Nat), vs = [.ref l, .ref t] ∧ LeftAt H l ca c ∧ SpreadAt K H t s ∧ c + 30 < most ∧
  ∀ (r : Addr) (ms : List Int) (H' : Hp), Keep (fun b => b = l) H H' → LeftAt H' l ca (c + 30) → H r = none → H' r = some (.lst (ms.map V.int)) → ms.length ≤ 10 → Q (.ref r) H'
theorem sc_law_gone : FnScope ["_law_left", "_law_told", "_law_row", "_law_here"] ["_law_left", "_law_told"] (defScope s_law_gone) := ⟨rfl, rfl, rfl, by decide +kernel, rfl, by decide +kernel, by decide +kernel⟩
set_option maxHeartbeats 1000000 in
theorem ok_law_gone {f : Addr} {fd : FuncData} (D : Def K mg "_law_gone" s_law_gone ["_law_left", "_law_told"] f fd) (T : Txt K mg C) (G_law_draw : Has P w K mg base "_law_draw" 1 ["_law_left", "_law_many"] (spDraw K)) : Has P w K mg base "_law_gone" 2 ["_law_left", "_law_told"] (spGone K) := by
  refine D.has (D.F.ok sc_law_gone (fun vs H Q E h => ?_) (fun cdv A outer s H vs Q E hr h => ?_))
  · obtain ⟨l, ca, t, s, c, rfl, _⟩ := h
    rfl
  obtain ⟨l, ca, t, s, c, rfl, hl, ⟨ta, tb, tc, ms0, rs, N, es, h⟩, hc, q⟩ := h
  have nd := sc_law_gone.nd
  refine ⟨_, (pss_cons (ps_set (i := 2) nd rfl (Or.inl rfl) (pe_lst pa_nil))
      (pss_cons (ps_set (i := 3) nd rfl (Or.inl rfl) pe_int)
      (pss_cons (ps_while PassesOwn.never (pt_wk (PW.pt (pw_and (pt_cmpR op_lt (pe_callB call_len_seq (by rfl) T.m_len (by decide +kernel) (pa_cons (pv 2) pa_nil)) pe_int (nomark _)) (pw_and (pt_cmpR (op_neD hr.units) (pe_ix ix_tup (pe_ix ix_tup (pv 1) pe_int (fun _ _ => rfl)) (pv 3) (fun _ _ => rfl)) (pe_tup pa_nil) (nomark _)) (pw_and1 (PW.pt (pw_or (pt_cmpR op_notIn_seq (pv 3) (pe_ix ix_tup (pv 1) pe_int (fun _ _ => rfl)) rfl) (pw_or1 (pt_cmpR op_gt (pe_fn G_law_draw (hr.mono (by omega)) rfl (pa_cons (pv 0) (pa_cons pe_int pa_nil))) pe_int (nomark _)))))))))) (pss_cons (ps_set (i := 3) nd rfl (Or.inl rfl) (pe_ix ix_tup (pe_ix ix_tup (pe_ix ix_tup (pv 1) pe_int (fun _ _ => rfl)) (pv 3) (fun _ _ => rfl)) (pe_fn G_law_draw (hr.mono (by omega)) rfl (pa_cons (pv 0) (pa_cons (pe_callB call_len_seq (by rfl) T.m_len (by decide +kernel) (pa_cons (pe_ix ix_tup (pe_ix ix_tup (pv 1) pe_int (fun _ _ => rfl)) (pv 3) (fun _ _ => rfl)) pa_nil)) pa_nil))) (fun _ _ => rfl)))
      (pss_one (ps_expr (pe_bm PySem.F.plainAttrs_list PySem.F.slot_list_append PySem.F.type_list_append mt_append (pv 2) (pa_cons (pv 3) pa_nil))))))
      (pss_one (ps_ret (pv 2)))))), ?_⟩
  obtain ⟨el, eca, ncl⟩ := hl.there
  refine ⟨Nat.zero_le _, fun rw' nrw => ?_⟩
  have nlr : rw' ≠ l := fun z => el (by rw [← z]; exact nrw)
  have ncr : rw' ≠ ca := fun z => eca (by rw [← z]; exact nrw)
  have s1 := same_new (o := .lst []) nrw
  have e1 : upd H rw' (.lst []) rw' = some (.lst (([] : List Int).map V.int)) := upd_same
  have k1 : Keep (fun b => b = l) H (upd H rw' (.lst [])) := Keep.of_same s1
  have hl1 := hl.same s1
  have h1 := h.mono s1.kt
  show tSeq _ _ _ _ (upd H rw' (.lst []))
  generalize upd H rw' (.lst []) = H1 at s1 e1 k1 hl1 h1 ⊢
  refine ⟨fun m σ H2 => ∃ (x : Int) (ms : List Int), σ = [some (.ref l), some (.ref t), some (.ref rw'), some (.int x)] ∧ ms.length ≤ 10 ∧ m = 10 - ms.length ∧ 0 ≤ x ∧ x ≤ wt s ∧ H2 rw' = some (.lst (ms.map V.int)) ∧ Told K H2 t ta tb tc ms0 rs N es s ∧
    Keep (fun b => b = l) H H2 ∧ LeftAt H2 l ca (c + 2 * ms.length), ⟨10, 0, [], rfl, by decide, rfl, by omega, by omega, e1, h1, k1, hl1⟩, ?_⟩
  rintro m σ H2 ⟨x, ms, rfl, lm, rfl, x0, x1, er, h2, k2, hl2⟩
  obtain ⟨r, ar, tr⟩ := h2.at_ x0 x1
  refine ⟨fun b H3 => Keep (fun b => b = l) H2 H3 ∧ LeftAt H3 l ca (c + 2 * ms.length + 1) ∧ (b = true → ms.length < 10 ∧ N x ≠ []), ?_, ?_⟩
  · have no : ∀ {b : Bool}, b = false → (b = true → ms.length < 10 ∧ N x ≠ []) := fun e z => by rw [e] at z; cases z
    refine ⟨_, rfl, rw', _, rfl, .inl (SqL.of er), _, _, rfl, rfl, _, rfl, ite2 (fun e2 => ?_) (fun _ => ⟨Keep.refl H2, hl2.mono (by omega), no rfl⟩)⟩
    have e2 : ms.length < 10 := by
      have z := of_decide_eq_true e2
      rw [List.length_map] at z
      omega
    refine ⟨_, rfl, t, _, _, _, rfl, rfl, h2.t, at1, _, rfl, tb, _, _, _, rfl, rfl, h2.b, ar, Nat.zero_le _, fun p np => ?_⟩
    have s3 := same_new (o := .tup []) np
    have h3 := h2.mono s3.kt
    have k3 : Keep (fun b => b = l) H2 (upd H2 p (.tup [])) := Keep.of_same s3
    have hl3 := hl2.same s3
    refine ⟨.tuple ((N x).map PyData.int), .tuple (([] : List Int).map PyData.int), .tup (s3.kt _ _ tr) (dp_ints _), .tup (xs := []) (SqT.of upd_same) .nil, shaped_tup _, shaped_tup [], _, rfl, ?_⟩
    rw [eqv_nil]
    refine ite2 (fun e3 => ?_) (fun _ => ⟨k3, hl3.mono (by omega), no rfl⟩)
    have e3 : N x ≠ [] := by simpa using e3
    refine ⟨_, rfl, _, rfl, t, _, _, _, rfl, rfl, h3.t, at2, tc, _, rfl, .inr h3.c, rfl, flat_ints _, _, rfl, ite2 (fun _ => ⟨k3, hl3.mono (by omega), fun _ => ⟨e2, e3⟩⟩) fun _ => ?_⟩
    exact ⟨_, rfl, l, ca, 3, _, rfl, hl3, by omega, by decide, by decide, fun n H4 n0 n1 k4 l4 => ⟨_, _, rfl, rfl, _, rfl, k3.trans k4 fun _ _ z => z, l4, fun _ => ⟨e2, e3⟩⟩⟩
  rintro b H3 ⟨kk3, hl3, hb⟩
  have k3 := k2.trans kk3 fun _ _ z => z
  have er3 := kk3.kp _ _ er nlr
  have kt3 := kk3.kt (K := K) hl2.lists
  have h3 := h2.mono kt3
  have tr3 := kt3 _ _ tr
  refine ite2 (fun e => ?_) (fun _ => ⟨_, rfl, q rw' ms H3 k3 (hl3.mono (by omega)) nrw er3 lm⟩)
  obtain ⟨lt, ne⟩ := hb e
  refine ⟨_, fun σ' H' z => z, ?_⟩
  have pos : 0 < (N x).length := List.length_pos_iff.mpr ne
  have few := h.few x
  refine ⟨_, rfl, t, _, _, _, rfl, rfl, h3.t, at1, _, rfl, tb, _, _, _, rfl, rfl, h3.b, ar, _, rfl, _, rfl, t, _, _, _, rfl, rfl, h3.t, at1, _, rfl, tb, _, _, _, rfl, rfl, h3.b, ar, r, _, rfl, .inr tr3, l, ca, _, _, rfl, hl3, by omega, by rw [List.length_map]; omega, by rw [List.length_map]; omega, fun n H4 n0 n1 k4 l4 => ?_⟩
  rw [List.length_map] at n1
  obtain ⟨z, az, zm⟩ := ints_at n0 n1
  have zb := h.inn x z zm
  have kt4 := k4.kt (K := K) hl3.lists
  have er4 := k4.kp _ _ er3 nlr
  refine ⟨r, _, _, _, rfl, rfl, kt4 _ _ tr3, az, ?_⟩
  refine ⟨_, rfl, .inl ⟨rfl, _, SqL.of er4⟩, _, rfl, rw', _, _, rfl, rfl, er4, fits' (by rw [List.length_map]; omega), ?_⟩
  have put : Keep (fun b => b = rw') H4 (upd H4 rw' (.lst (ms.map V.int ++ [V.int z]))) := Keep.put (S := fun b => b = rw') rfl
  have ktp := put.kt (K := K) (fun b e => .inr ⟨ms.map V.int, by rw [show b = rw' from e]; exact er4⟩)
  refine ⟨10 - (ms.length + 1), by omega, z, ms ++ [z], rfl, by rw [List.length_append, List.length_singleton]; omega, by rw [List.length_append, List.length_singleton], by omega, zb.2, by rw [upd_same, List.map_append]; rfl, (h3.mono kt4).mono ktp, ?_, ?_⟩
  · exact (k3.trans k4 fun _ _ z => z).trans put fun b e z => absurd nrw (by rw [← z]; exact e)
  · rw [List.length_append, List.length_singleton]
    exact (l4.keep put (Ne.symm nlr) (Ne.symm ncr)).mono (by omega)
end
end K12

/-! a row parted into a shape's parts: _law_comes_behind, _law_comes_often -/
namespace K12
open PySem L2
theorem same_put {H H1 : Hp} {p : Addr} {o : HO} (h : Same H H1) (n : H p = none) : Same H (upd H1 p o) := fun b u e => by
  rw [upd_ne (ne_of_none e n)]
  exact h b u e
theorem seq_put {K : PySem.W.Frag} {H : Hp} {p a : Addr} {xs : List V} {o : HO} (h : SqL K H a xs) (n : a ≠ p) : SqL K (upd H p o) a xs := by
  rcases h with (h | ⟨ob, h⟩) | h
  · exact .inl (.inl (by rw [upd_ne n]; exact h))
  · exact .inl (.inr ⟨ob, by rw [upd_ne n]; exact h⟩)
  · exact .inr h
theorem kt_put {K : PySem.W.Frag} {H : Hp} {p : Addr} {xs : List V} {o : HO} (h : H p = some (.lst xs)) : KT K H (upd H p o) :=
  (Keep.put (S := fun b => b = p) rfl).kt fun b e => .inr ⟨xs, by rw [show b = p from e]; exact h⟩
/-- few numbers from 0 to n, each told once -/
theorem srt_few {ms : List Int} {n : Nat} (h : ms.Pairwise (· < ·)) (b : ∀ j ∈ ms, 0 ≤ j ∧ j ≤ n) : ms.length ≤ n + 1 :=
  nodup_few (n + 1) ms 0 (h.imp fun q => Int.ne_of_lt q) fun x hx => by have := b x hx; omega
section
variable {P : Program} {w : World} {K : PySem.W.Frag} {mg : Str → Option Value} {base : Heap} {C : Addr}
/-- the places at which a stretch of the row ends that begins at k and is in A -/
def spEnds (K : PySem.W.Frag) (d : Nat) (A : Sh → Int → Lang) : Sp := fun vs H Q _ => ∃ (v : V) (s : Sh) (a k : Int) (rw' : Addr) (ns : List Int), vs = [v, .int a, .ref rw', .int k] ∧ At K H s v ∧ wf s ∧ dep s ≤ d ∧ SqL K H rw' (ns.map V.int) ∧ ns.length ≤ 40 ∧ 0 ≤ k ∧ k ≤ ns.length ∧
  ∀ (p : Addr) (ms : List Int) (H' : Hp), Same H H' → H p = none → H' p = some (.lst (ms.map V.int)) → ms.length ≤ 45 → (∀ j : Int, j ∈ ms ↔ Seg (A s a) ns k j) → Q (.ref p) H'
def spComes (K : PySem.W.Frag) (d : Nat) : Sp := spEnds K d L
def spOften (K : PySem.W.Frag) (d : Nat) : Sp := spEnds K d fun s a => Star (L s a)
def spBehind (K : PySem.W.Frag) (d : Nat) : Sp := fun vs H Q _ => ∃ (v : V) (s : Sh) (a : Int) (rw' he : Addr) (ns hs : List Int), vs = [v, .int a, .ref rw', .ref he] ∧ At K H s v ∧ wf s ∧ dep s ≤ d ∧ SqL K H rw' (ns.map V.int) ∧ ns.length ≤ 40 ∧
  SqL K H he (hs.map V.int) ∧ hs.length ≤ 45 ∧ (∀ k ∈ hs, 0 ≤ k ∧ k ≤ (ns.length : Int)) ∧
  ∀ (p : Addr) (ms : List Int) (H' : Hp), Same H H' → H p = none → H' p = some (.lst (ms.map V.int)) → ms.length ≤ 45 → (∀ j : Int, j ∈ ms ↔ ∃ k ∈ hs, Seg (L s a) ns k j) → Q (.ref p) H'
theorem sc_law_comes_behind : FnScope ["_law_part", "_law_at", "_law_row", "_law_here", "_law_told", "_law_k"] ["_law_part", "_law_at", "_law_row", "_law_here"] (defScope s_law_comes_behind) := ⟨rfl, rfl, rfl, by decide +kernel, rfl, by decide +kernel, by decide +kernel⟩
theorem ok_law_comes_behind {f : Addr} {fd : FuncData} {d k0 : Nat} (D : Def K mg "_law_comes_behind" s_law_comes_behind ["_law_part", "_law_at", "_law_row", "_law_here"] f fd) (T : Txt K mg C) (G_law_comes : Has P w K mg base "_law_comes" k0 ["_law_shape_here", "_law_at", "_law_row", "_law_k"] (spComes K d)) :
    Has P w K mg base "_law_comes_behind" (k0 + 1) ["_law_part", "_law_at", "_law_row", "_law_here"] (spBehind K d) := by
  refine D.has (D.F.ok sc_law_comes_behind (fun vs H Q E h => ?_) (fun cdv A outer s H vs Q E hr h => ?_))
  · obtain ⟨v, s, a, rw', he, ns, hs, rfl, _⟩ := h
    rfl
  obtain ⟨v, s, a, rw', he, ns, hs, rfl, at_, w1, dp, hS, ln, hH, lh, bh, q⟩ := h
  have nd := sc_law_comes_behind.nd
  refine ⟨_, (pss_cons (ps_set (i := 4) nd rfl (Or.inl rfl) (pe_lst pa_nil))
      (pss_cons (ps_for PassesOwn.never rfl (pi_list (pv 3)) (pg_name (i := 5) nd rfl (Or.inl rfl)) (pss_one (ps_aug (i := 4) nd rfl (Or.inl rfl) (pe_fn G_law_comes (hr.mono (by omega)) rfl (pa_cons (pv 0) (pa_cons (pv 1) (pa_cons (pv 2) (pa_cons (pv 5) pa_nil))))) (ip_of iop_ext))))
      (pss_one (ps_ret (pe_sortset rfl (by rfl) T.m_sorted (by rfl) T.m_set (pv 4)))))), ?_⟩
  refine ⟨Nat.zero_le _, fun to nto => ?_⟩
  have s1 := same_new (o := .lst []) nto
  refine ⟨_, rfl, he, rfl, ⟨_, s1.seq hH⟩, for_list (K := K) (a := he) (xs := hs.map V.int) (fun i σ H2 => Same H H2 ∧ ∃ (v5 : Option V) (ts : List Int), σ = [some v, some (.int a), some (.ref rw'), some (.ref he), some (.ref to), v5] ∧ H2 to = some (.lst (ts.map V.int)) ∧ ts.length ≤ 45 * i ∧
    (∀ j : Int, j ∈ ts ↔ ∃ k ∈ hs.take i, Seg (L s a) ns k j)) ⟨s1, none, [], rfl, upd_same, Nat.zero_le _, fun j => by simp⟩ (fun i σ H2 _ h => h.1.seq hH) ?_ ?_⟩
  · rintro i x σ H2 hx ⟨s2, v5, ts, rfl, e2, lt, mem⟩
    rw [List.getElem?_map] at hx
    obtain ⟨k, hk, rfl⟩ := Option.map_eq_some_iff.mp hx
    have mk := List.mem_of_getElem? hk
    have bk := bh k mk
    have li : i < hs.length := (List.getElem?_eq_some_iff.mp hk).1
    refine ⟨_, rfl, _, rfl, _, rfl, _, rfl, _, rfl, v, s, a, k, rw', ns, rfl, At.mono s2.kt _ _ at_, w1, dp, s2.seq hS, ln, bk.1, bk.2, fun p ms H3 s3 np e3 lm mm => ?_⟩
    have e2' := s3 _ _ e2
    refine ⟨to, p, _, _, rfl, rfl, e2', e3, fits (by simp only [List.length_map]; omega), ?_⟩
    refine ⟨same_put (s2.trans s3) nto, _, ts ++ ms, rfl, by rw [upd_same, List.map_append], by rw [List.length_append]; omega, fun j => ?_⟩
    rw [List.mem_append, mem, mm, List.take_add_one, hk]
    simp only [Option.toList_some, List.mem_append, List.mem_singleton]
    constructor
    · rintro (⟨k', h1, h2⟩ | h)
      · exact ⟨k', .inl h1, h2⟩
      · exact ⟨k, .inr rfl, h⟩
    · rintro ⟨k', h1 | rfl, h2⟩
      · exact .inl ⟨k', h1, h2⟩
      · exact .inr h2
  · rintro σ H2 ⟨s2, v5, ts, rfl, e2, lt, mem⟩
    rw [List.length_map, List.take_length] at mem
    have bd : ∀ j ∈ ts, 0 ≤ j ∧ j ≤ (ns.length : Int) := fun j hj => by
      obtain ⟨k, _, h⟩ := (mem j).mp hj
      have := h.bounds
      omega
    rw [List.length_map] at lt
    refine ⟨_, rfl, to, ts, rfl, SqL.of e2, by omega, ⟨0, 41, by decide, fun k hk => by have := bd k hk; omega⟩, fun ms p H3 srt mm s3 np e3 => ?_⟩
    refine q p ms H3 (s2.trans s3) (s2.free np) e3 ?_ fun j => (mm j).trans (mem j)
    have := srt_few (n := ns.length) srt fun j hj => bd j ((mm j).mp hj)
    omega
theorem sc_law_comes_often : FnScope ["_law_part", "_law_at", "_law_row", "_law_k", "_law_found", "_law_at_one", "_law_end"] ["_law_part", "_law_at", "_law_row", "_law_k"] (defScope s_law_comes_often) := ⟨rfl, rfl, rfl, by decide +kernel, rfl, by decide +kernel, by decide +kernel⟩
theorem ok_law_comes_often {f : Addr} {fd : FuncData} {d k0 : Nat} (D : Def K mg "_law_comes_often" s_law_comes_often ["_law_part", "_law_at", "_law_row", "_law_k"] f fd) (T : Txt K mg C) (G_law_comes : Has P w K mg base "_law_comes" k0 ["_law_shape_here", "_law_at", "_law_row", "_law_k"] (spComes K d)) :
    Has P w K mg base "_law_comes_often" (k0 + 1) ["_law_part", "_law_at", "_law_row", "_law_k"] (spOften K d) := by
  refine D.has (D.F.ok sc_law_comes_often (fun vs H Q E h => ?_) (fun cdv A outer s H vs Q E hr h => ?_))
  · obtain ⟨v, s, a, k, rw', ns, rfl, _⟩ := h
    rfl
  obtain ⟨v, s, a, k, rw', ns, rfl, at_, w1, dp, hS, ln, k0', k1', q⟩ := h
  have nd := sc_law_comes_often.nd
  refine ⟨_, (pss_cons (ps_set (i := 4) nd rfl (Or.inl rfl) (pe_lst (pa_cons (pv 3) pa_nil)))
      (pss_cons (ps_set (i := 5) nd rfl (Or.inl rfl) pe_int)
      (pss_cons (ps_while PassesOwn.never (pt_cmpR op_lt (pv 5) (pe_callB call_len_seq (by rfl) T.m_len (by decide +kernel) (pa_cons (pv 4) pa_nil)) (nomark _)) (pss_cons (ps_for PassesOwn.never rfl (pi_list (pe_fn G_law_comes (hr.mono (by omega)) rfl (pa_cons (pv 0) (pa_cons (pv 1) (pa_cons (pv 2) (pa_cons (pe_ix ix_list (pv 4) (pv 5) (fun _ _ => rfl)) pa_nil)))))) (pg_name (i := 6) nd rfl (Or.inl rfl)) (pss_one (ps_if (pt_cmpR op_notIn_seq (pv 6) (pv 4) rfl) (pss_one (ps_expr (pe_bm PySem.F.plainAttrs_list PySem.F.slot_list_append PySem.F.type_list_append mt_append (pv 4) (pa_cons (pv 6) pa_nil)))) pss_nil)))
      (pss_one (ps_aug (i := 5) nd rfl (Or.inl rfl) pe_int ip_add))))
      (pss_one (ps_ret (pe_callB cr_sorted (by rfl) T.m_sorted (by decide +kernel) (pa_cons (pv 4) pa_nil))))))), ?_⟩
  refine ⟨_, rfl, by show 1 ≤ sizeLine; decide, fun fo nfo => ?_⟩
  have s1 := same_new (o := .lst [V.int k]) nfo
  -- what is found is led to from k
  have good : ∀ {fs : List Int}, (∀ j ∈ fs, Seg (Star (L s a)) ns k j) → fs.Nodup → fs.length ≤ 41 := fun h nd' => nodup_few 41 _ 0 nd' fun x hx => by
    have := (h x hx).bounds
    omega
  refine ⟨fun m σ H2 => ∃ (i : Nat) (v6 : Option V) (fs : List Int), σ = [some v, some (.int a), some (.ref rw'), some (.int k), some (.ref fo), some (.int i), v6] ∧ m = 41 - i ∧ i ≤ fs.length ∧ Same H H2 ∧ H2 fo = some (.lst (fs.map V.int)) ∧ fs.Nodup ∧ k ∈ fs ∧
    (∀ j ∈ fs, Seg (Star (L s a)) ns k j) ∧ (∀ x ∈ fs.take i, ∀ j, Seg (L s a) ns x j → j ∈ fs), ⟨41, 0, none, [k], rfl, rfl, Nat.zero_le _, s1, upd_same, by simp, by simp, fun j hj => by rw [List.mem_singleton.mp hj]; exact seg_star_refl k0' k1', fun x hx => by simp at hx⟩, ?_⟩
  rintro m σ H2 ⟨i, v6, fs, rfl, rfl, li, s2, e2, nd2, mk, led, cl⟩
  have few := good led nd2
  refine ⟨_, rfl, _, rfl, fo, _, rfl, .inl (SqL.of e2), _, _, rfl, rfl, _, rfl, ite2 (fun e => ?_) (fun e => ?_)⟩
  · have lt : i < fs.length := by
      have z := of_decide_eq_true e
      rw [List.length_map] at z
      omega
    obtain ⟨x, ex⟩ : ∃ x, fs[i]? = some x := ⟨fs[i], List.getElem?_eq_getElem lt⟩
    have mx := List.mem_of_getElem? ex
    have bx := (led x mx).bounds
    refine ⟨_, fun σ' H' z => z, ?_⟩
    refine ⟨_, rfl, _, rfl, _, rfl, _, rfl, _, rfl, fo, _, _, _, rfl, rfl, SqL.of e2, at_of (j := i) (v := V.int x) rfl (by rw [List.getElem?_map, ex]; rfl), v, s, a, x, rw', ns, rfl, At.mono s2.kt _ _ at_, w1, dp, s2.seq hS, ln, by omega, by omega, fun p ms H3 s3 np e3 lm mm => ?_⟩
    have npf : fo ≠ p := ne_of_none e2 np
    refine ⟨p, rfl, ⟨_, SqL.of e3⟩, for_list (K := K) (a := p) (xs := ms.map V.int) (fun n σ H4 => ∃ (v6 : Option V) (gs : List Int), σ = [some v, some (.int a), some (.ref rw'), some (.int k), some (.ref fo), some (.int i), v6] ∧ Same H H4 ∧ H4 p = some (.lst (ms.map V.int)) ∧ H4 fo = some (.lst ((fs ++ gs).map V.int)) ∧ (fs ++ gs).Nodup ∧
      (∀ j ∈ fs ++ gs, Seg (Star (L s a)) ns k j) ∧ ∀ j ∈ ms.take n, j ∈ fs ++ gs) ⟨v6, [], rfl, s2.trans s3, e3, by rw [List.append_nil]; exact s3 _ _ e2, by rw [List.append_nil]; exact nd2, by rw [List.append_nil]; exact led, fun j hj => by simp at hj⟩
      (fun n σ H4 _ ⟨_, _, _, _, h, _⟩ => SqL.of h) ?_ ?_⟩
    · rintro n y σ H4 hy ⟨v6', gs, rfl, s4, e4, f4, nd4, led4, al⟩
      rw [List.getElem?_map] at hy
      obtain ⟨z, hz, rfl⟩ := Option.map_eq_some_iff.mp hy
      have mz := List.mem_of_getElem? hz
      have segz := (mm z).mp mz
      have tk : ∀ j, j ∈ ms.take (n + 1) → j ∈ ms.take n ∨ j = z := fun j hj => by
        rw [List.take_add_one, hz] at hj
        simpa using hj
      refine ⟨_, rfl, _, rfl, fo, _, rfl, .inl (SqL.of f4), rfl, flat_ints _, _, rfl, ?_⟩
      rw [inV_ints]
      refine ite2 (fun e5 => ?_) (fun e5 => ?_)
      · have nz : ¬ z ∈ fs ++ gs := by simpa using e5
        have few4 := good led4 nd4
        refine ⟨_, rfl, .inl ⟨rfl, _, SqL.of f4⟩, _, rfl, fo, _, _, rfl, rfl, f4, fits' (by rw [List.length_map]; omega), ?_⟩
        have ea : fs ++ (gs ++ [z]) = (fs ++ gs) ++ [z] := (List.append_assoc ..).symm
        refine ⟨_, gs ++ [z], rfl, same_put s4 nfo, by rw [upd_ne (Ne.symm npf)]; exact e4, by rw [upd_same, ea, List.map_append (l₁ := fs ++ gs)]; rfl, ?_, ?_, ?_⟩
        · rw [ea]
          exact List.nodup_append.mpr ⟨nd4, by simp, fun b hb c hc => by rw [List.mem_singleton.mp hc]; rintro rfl; exact nz hb⟩
        · rw [ea]
          intro j hj
          rcases List.mem_append.mp hj with hj | hj
          · exact led4 j hj
          · rw [List.mem_singleton.mp hj]
            exact seg_star_snoc (led x mx) segz
        · rw [ea]
          intro j hj
          rcases tk j hj with hj | rfl
          · exact List.mem_append_left _ (al j hj)
          · exact List.mem_append_right _ (List.mem_singleton.mpr rfl)
      · have yz : z ∈ fs ++ gs := by
          cases c : decide (z ∈ fs ++ gs) with
          | true => exact of_decide_eq_true c
          | false => rw [c] at e5; exact absurd rfl e5
        refine ⟨_, gs, rfl, s4, e4, f4, nd4, led4, fun j hj => ?_⟩
        rcases tk j hj with hj | rfl
        · exact al j hj
        · exact yz
    · rintro σ H4 ⟨v6', gs, rfl, s4, e4, f4, nd4, led4, al⟩
      rw [List.length_map, List.take_length] at al
      have few4 := good led4 nd4
      rw [List.length_append] at few4
      refine ⟨_, rfl, _, _, rfl, rfl, ?_⟩
      refine ⟨41 - (i + 1), by omega, i + 1, _, fs ++ gs, rfl, rfl, by rw [List.length_append]; omega, s4, f4, nd4, List.mem_append_left _ mk, led4, ?_⟩
      intro y hy j hj
      rw [List.take_append_of_le_length lt, List.take_add_one, ex] at hy
      simp only [Option.toList_some, List.mem_append, List.mem_singleton] at hy
      rcases hy with hy | rfl
      · exact List.mem_append_left _ (cl y hy j hj)
      · exact al j ((mm j).mpr hj)
  · have ge : ¬ i < fs.length := fun z => e (decide_eq_true (by rw [List.length_map]; omega))
    rw [List.take_of_length_le (by omega)] at cl
    refine ⟨_, rfl, fo, fs, rfl, SqL.of e2, by omega, fun ms p pm srt np => ?_⟩
    have mm : ∀ j, j ∈ ms ↔ j ∈ fs := fun j => pm.mem_iff
    refine q p ms _ (s2.trans (same_new np)) (s2.free np) upd_same (by rw [pm.length_eq]; omega) fun j => (mm j).trans ⟨led j, fun h => ?_⟩
    exact seg_star_in (P := fun j => j ∈ fs) (fun x j hx hj => cl x hx j hj) mk h
end
end K12

/-! a row parted into a shape's parts: _law_comes -/
namespace K12
open PySem L2
/-! ### what is found and where one is, behind i parts -/
theorem seg_or {A B : Lang} {r : List Int} {k j : Int} : Seg (fun w => A w ∨ B w) r k j ↔ Seg A r k j ∨ Seg B r k j := by
  unfold Seg
  constructor
  · rintro ⟨a, b, c, d | d⟩
    · exact .inl ⟨a, b, c, d⟩
    · exact .inr ⟨a, b, c, d⟩
  · rintro (⟨a, b, c, d⟩ | ⟨a, b, c, d⟩)
    · exact ⟨a, b, c, .inl d⟩
    · exact ⟨a, b, c, .inr d⟩
def her (s : Sh) (a : Int) (ns : List Int) (k : Int) (i : Nat) (j : Int) : Prop :=
  match s with
  | .either _ => j = k
  | s => Seg (LS ((lays s).take i) nilL a) ns k j
def fnd (s : Sh) (a : Int) (ns : List Int) (k : Int) (i : Nat) (j : Int) : Prop :=
  match s with
  | .either ps => Seg (LE (ps.take i) (fun _ => False) a) ns k j
  | .times p lo hi => ∃ n, lo ≤ n ∧ n < i ∧ Seg (LS ((lays (.times p lo hi)).take n) nilL a) ns k j
  | _ => False
theorem her_seg {s : Sh} (h : ∀ ps, s ≠ .either ps) (a : Int) (ns : List Int) (k : Int) (i : Nat) (j : Int) : her s a ns k i j ↔ Seg (LS ((lays s).take i) nilL a) ns k j := by
  cases s with
  | either ps => exact absurd rfl (h ps)
  | one => exact Iff.rfl
  | row ps => exact Iff.rfl
  | many p => exact Iff.rfl
  | times p lo hi => exact Iff.rfl
theorem her_zero {s : Sh} {a : Int} {ns : List Int} {k j : Int} (h0 : 0 ≤ k) (h1 : k ≤ ns.length) : her s a ns k 0 j ↔ j = k := by
  by_cases c : ∃ ps, s = .either ps
  · obtain ⟨ps, rfl⟩ := c
    exact Iff.rfl
  · rw [her_seg (fun ps e => c ⟨ps, e⟩), List.take_zero]
    exact seg_nil h0 h1
theorem fnd_zero {s : Sh} {a : Int} {ns : List Int} {k j : Int} : ¬ fnd s a ns k 0 j := by
  cases s with
  | either ps => exact fun h => h.2.2.2
  | one => exact fun h => h
  | row ps => exact fun h => h
  | many p => exact fun h => h
  | times p lo hi => exact fun ⟨n, _, h, _⟩ => absurd h (Nat.not_lt_zero _)
theorem her_next {s : Sh} (h : ∀ ps, s ≠ .either ps) {a : Int} {ns : List Int} {k : Int} {i : Nat} {s1 : Sh} (e : (lays s)[i]? = some s1) (j : Int) :
    her s a ns k (i + 1) j ↔ ∃ x, her s a ns k i x ∧ Seg (L s1 (a + wts ((lays s).take i))) ns x j := by
  rw [her_seg h, List.take_add_one, e]
  show Seg (LS ((lays s).take i ++ [s1]) nilL a) ns k j ↔ _
  rw [LS_snoc, seg_cat]
  simp only [her_seg h]
theorem her_bounds {s : Sh} {a : Int} {ns : List Int} {k j : Int} {i : Nat} (h0 : 0 ≤ k) (h1 : k ≤ ns.length) (h : her s a ns k i j) : 0 ≤ j ∧ j ≤ (ns.length : Int) := by
  by_cases c : ∃ ps, s = .either ps
  · obtain ⟨ps, rfl⟩ := c
    have h : j = k := h
    omega
  · have h := ((her_seg (fun ps e => c ⟨ps, e⟩) a ns k i j).mp h).bounds
    omega
theorem fnd_bounds {s : Sh} {a : Int} {ns : List Int} {k j : Int} {i : Nat} (h : fnd s a ns k i j) : 0 ≤ j ∧ j ≤ (ns.length : Int) := by
  cases s with
  | either ps => have := Seg.bounds h; omega
  | one => exact h.elim
  | row ps => exact h.elim
  | many p => exact h.elim
  | times p lo hi => obtain ⟨n, _, _, h⟩ := h; have := h.bounds; omega
/-- the parts of the times that came already -/
theorem fnd_times {p : Sh} {lo hi : Nat} {a : Int} {ns : List Int} {k : Int} {i : Nat} (j : Int) : fnd (.times p lo hi) a ns k (i + 1) j ↔ fnd (.times p lo hi) a ns k i j ∨ (lo ≤ i ∧ her (.times p lo hi) a ns k i j) := by
  constructor
  · rintro ⟨n, h1, h2, h3⟩
    rcases (show n < i ∨ n = i by omega) with e | rfl
    · exact .inl ⟨n, h1, e, h3⟩
    · exact .inr ⟨h1, h3⟩
  · rintro (⟨n, h1, h2, h3⟩ | ⟨h1, h3⟩)
    · exact ⟨n, h1, by omega, h3⟩
    · exact ⟨i, h1, by omega, h3⟩
theorem fnd_either {ps : List Sh} {a : Int} {ns : List Int} {k : Int} {i : Nat} {s1 : Sh} (e : ps[i]? = some s1) (j : Int) : fnd (.either ps) a ns k (i + 1) j ↔ fnd (.either ps) a ns k i j ∨ Seg (L s1 (a + wts (ps.take i))) ns k j := by
  show Seg (LE (ps.take (i + 1)) _ a) ns k j ↔ _
  rw [List.take_add_one, e]
  show Seg (LE (ps.take i ++ [s1]) _ a) ns k j ↔ _
  rw [LE_snoc, seg_or]
  exact Iff.rfl
/-- at the end -/
theorem all_either {ps : List Sh} {a : Int} {ns : List Int} {k j : Int} : fnd (.either ps) a ns k ps.length j ↔ Seg (L (.either ps) a) ns k j := by
  show Seg (LE (ps.take ps.length) _ a) ns k j ↔ _
  rw [List.take_length]
  simp only [L]
theorem all_other {s : Sh} (w1 : wf s) (h1 : s ≠ .one) (h2 : ∀ p, s ≠ .many p) (h : ∀ ps, s ≠ .either ps) {a : Int} {ns : List Int} {k j : Int} : (fnd s a ns k (lays s).length j ∨ her s a ns k (lays s).length j) ↔ Seg (L s a) ns k j := by
  cases s with
  | one => exact absurd rfl h1
  | many p => exact absurd rfl (h2 p)
  | either ps => exact absurd rfl (h ps)
  | row ps =>
    rw [her_seg h, List.take_length]
    simp only [L]
    exact ⟨fun z => z.elim (fun z => z.elim) fun z => z, .inr⟩
  | times p lo hi =>
    simp only [wf] at w1
    rw [her_seg h]
    have el : (lays (.times p lo hi)).length = hi := List.length_replicate
    have et : ∀ n, n ≤ hi → LS ((lays (.times p lo hi)).take n) nilL a = Rp (fun b => L p b) (wt p) a n := fun n hn => by
      show LS ((List.replicate hi p).take n) nilL a = _
      rw [List.take_replicate, Nat.min_eq_left hn, LS_rep]
    rw [el]
    simp only [L]
    constructor
    · rintro (⟨n, n1, n2, b⟩ | b)
      · rw [et n (by omega)] at b
        exact ⟨b.1, b.2.1, b.2.2.1, n, n1, by omega, b.2.2.2⟩
      · rw [et hi (Nat.le_refl _)] at b
        exact ⟨b.1, b.2.1, b.2.2.1, hi, w1.1, Nat.le_refl _, b.2.2.2⟩
    · rintro ⟨b1, b2, b3, n, n1, n2, b⟩
      rcases (show n < hi ∨ n = hi by omega) with e | rfl
      · exact .inl ⟨n, n1, e, by rw [et n n2]; exact ⟨b1, b2, b3, b⟩⟩
      · exact .inr (by rw [et n n2]; exact ⟨b1, b2, b3, b⟩)
theorem lays_wts : ∀ {s : Sh} {i : Nat} {s1 : Sh}, (lays s)[i]? = some s1 → wts ((lays s).take (i + 1)) = wts ((lays s).take i) + wt s1 := fun {s i s1} e => by
  rw [List.take_add_one, e]
  show wts ((lays s).take i ++ [s1]) = _
  rw [wts_append]
  simp [wts]
section
variable {P : Program} {w : World} {K : PySem.W.Frag} {mg : Str → Option Value} {base : Heap} {C : Addr}
theorem sc_law_comes : FnScope ["_law_shape_here", "_law_at", "_law_row", "_law_k", "_law_found", "_law_here", "_law_low", "_law_count", "_law_part"] ["_law_shape_here", "_law_at", "_law_row", "_law_k"] (defScope s_law_comes) := ⟨rfl, rfl, rfl, by decide +kernel, rfl, by decide +kernel, by decide +kernel⟩
set_option maxHeartbeats 2000000 in
theorem ok_law_comes {f : Addr} {fd : FuncData} {d kw ko kb kc k0 : Nat} (D : Def K mg "_law_comes" s_law_comes ["_law_shape_here", "_law_at", "_law_row", "_law_k"] f fd) (T : Txt K mg C) (i0 : 1 ≤ k0) (i1 : kw ≤ k0) (i2 : ko ≤ k0) (i3 : kb ≤ k0) (i4 : kc ≤ k0)
    (G_law_weight : Has P w K mg base "_law_weight" kw ["_law_shape_here"] (spWeight K (d + 1))) (G_law_laid : Has P w K mg base "_law_laid" 1 ["_law_shape_here"] (spLays K)) (G_law_comes_often : Has P w K mg base "_law_comes_often" ko ["_law_part", "_law_at", "_law_row", "_law_k"] (spOften K d))
    (G_law_comes_behind : Has P w K mg base "_law_comes_behind" kb ["_law_part", "_law_at", "_law_row", "_law_here"] (spBehind K d)) (G_law_comes : Has P w K mg base "_law_comes" kc ["_law_shape_here", "_law_at", "_law_row", "_law_k"] (spComes K d)) : Has P w K mg base "_law_comes" (k0 + 1) ["_law_shape_here", "_law_at", "_law_row", "_law_k"] (spComes K (d + 1)) := by
  refine D.has (D.F.ok sc_law_comes (fun vs H Q E h => ?_) (fun cdv A outer s0 H vs Q E hr h => ?_))
  · obtain ⟨v, s, a, k, rw', ns, rfl, _⟩ := h
    rfl
  obtain ⟨v, s, a, k, rw', ns, rfl, hs, w1, dp, hS, ln, k0', k1', q⟩ := h
  have nd := sc_law_comes.nd
  refine ⟨_, (pss_cons (ps_if (pt_cmpR op_eq (pe_fn G_law_weight (hr.mono (by omega)) rfl (pa_cons (pv 0) pa_nil)) pe_int (nomark _)) (pss_one (ps_ret (pe_lst (pa_cons (pv 3) pa_nil)))) pss_nil)
      (pss_cons (ps_if (pt_cmpR op_eq (pe_ix ix_tup (pv 0) pe_int (fun _ _ => rfl)) pe_str (nomark _)) (pss_one (ps_ret (pe_wk (pe_ifExp (PW.pt (pw_and (pt_cmpR op_lt (pv 3) (pe_callB call_len_seq (by rfl) T.m_len (by decide +kernel) (pa_cons (pv 2) pa_nil)) (nomark _)) (pw_and1 (pt_cmpR op_eq (pe_ix ix_list (pv 2) (pv 3) (fun _ _ => rfl)) (pe_op op_add (pv 1) pe_int) (nomark _))))) (pe_lst (pa_cons (pe_op op_add (pv 3) pe_int) pa_nil)) (pe_lst pa_nil))))) pss_nil)
      (pss_cons (ps_if (pt_cmpR op_eq (pe_ix ix_tup (pv 0) pe_int (fun _ _ => rfl)) pe_str (nomark _)) (pss_one (ps_ret (pe_fn G_law_comes_often (hr.mono (by omega)) rfl (pa_cons (pe_ix ix_tup (pv 0) pe_int (fun _ _ => rfl)) (pa_cons (pv 1) (pa_cons (pv 2) (pa_cons (pv 3) pa_nil))))))) pss_nil)
      (pss_cons (ps_set (i := 4) nd rfl (Or.inl rfl) (pe_lst pa_nil))
      (pss_cons (ps_set (i := 5) nd rfl (Or.inl rfl) (pe_lst (pa_cons (pv 3) pa_nil)))
      (pss_cons (ps_set (i := 6) nd rfl (Or.inl rfl) (pe_wk (pe_ifExp (pt_cmpR op_eq (pe_ix ix_tup (pv 0) pe_int (fun _ _ => rfl)) pe_str (nomark _)) (pe_ix ix_tup (pv 0) pe_int (fun _ _ => rfl)) pe_int)))
      (pss_cons (ps_for PassesOwn.never rfl (pi_enumT (by rfl) T.m_enumerate (pa_cons (pe_fn G_law_laid (hr.mono (by omega)) rfl (pa_cons (pv 0) pa_nil)) pa_nil)) (pg_tup (by rfl) (pgs_cons (pg_name (i := 7) nd rfl (Or.inl rfl)) (pgs_cons (pg_name (i := 8) nd rfl (Or.inl rfl)) pgs_nil))) (pss_mid (ps_if (pt_cmpR op_eq (pe_ix ix_tup (pv 0) pe_int (fun _ _ => rfl)) pe_str (nomark _)) (pss_one (ps_aug (i := 4) nd rfl (Or.inl rfl) (pe_fn G_law_comes (hr.mono (by omega)) rfl (pa_cons (pv 8) (pa_cons (pv 1) (pa_cons (pv 2) (pa_cons (pv 3) pa_nil))))) (ip_of iop_ext))) (pss_mid (ps_if (pt_wk (PW.pt (pw_and (pt_cmpR op_eq (pe_ix ix_tup (pv 0) pe_int (fun _ _ => rfl)) pe_str (nomark _)) (pw_and1 (pt_cmpR op_ge (pv 7) (pv 6) (nomark _)))))) (pss_one (ps_aug (i := 4) nd rfl (Or.inl rfl) (pv 5) (ip_of iop_ext))) pss_nil)
      (pss_one (ps_set (i := 5) nd rfl (Or.inl rfl) (pe_fn G_law_comes_behind (hr.mono (by omega)) rfl (pa_cons (pv 8) (pa_cons (pv 1) (pa_cons (pv 2) (pa_cons (pv 5) pa_nil)))))))))
      (pss_one (ps_aug (i := 1) nd rfl (Or.inl rfl) (pe_fn G_law_weight (hr.mono (by omega)) rfl (pa_cons (pv 8) pa_nil)) ip_add))))
      (pss_mid (ps_if (pt_cmpR op_ne (pe_ix ix_tup (pv 0) pe_int (fun _ _ => rfl)) pe_str (nomark _)) (pss_one (ps_aug (i := 4) nd rfl (Or.inl rfl) (pv 5) (ip_of iop_ext))) pss_nil)
      (pss_one (ps_ret (pe_sortset rfl (by rfl) T.m_sorted (by rfl) T.m_set (pv 4)))))))))))), ?_⟩
  refine ⟨_, rfl, v, s, rfl, hs, w1, dp, fun H1 s1 => ⟨rfl, _, rfl, ite2 (fun e => ?_) (fun e => ?_)⟩⟩
  · have ez : wt s = 0 := by
      have := of_decide_eq_true e
      have := V.int.inj this
      omega
    refine ⟨_, rfl, by show 1 ≤ sizeLine; decide, fun p np => ?_⟩
    refine q p [k] _ (s1.trans (same_new np)) (s1.free np) upd_same (by show 1 ≤ 45; decide) fun j => ?_
    rw [List.mem_singleton, Seg.congr (B := nilL) (L_zero s w1 ez a), seg_nil k0' k1']
  obtain ⟨p, r, rfl, t⟩ := hs.tag
  refine ⟨_, rfl, p, _, _, _, rfl, rfl, s1.kt _ _ t, at0, rfl, _, rfl, if_tag (fun c => ?_) (fun c1 => ?_)⟩
  · obtain rfl := tag_one c
    refine ⟨fun x H2 => ∃ (o : Addr) (ms : List Int), x = .ref o ∧ H1 o = none ∧ H2 = upd H1 o (.lst (ms.map V.int)) ∧ ms.length ≤ 1 ∧ ∀ j : Int, j ∈ ms ↔ Seg (L .one a) ns k j, ?_, ?_⟩
    · have em : ∀ {H2 : Hp}, H2 = H1 → ¬ ns[k.toNat]? = some (a + 1) → tLst tNil [some (.ref p), some (.int a), some (.ref rw'), some (.int k), none, none, none, none, none] H2 (fun x H2 => ∃ (o : Addr) (ms : List Int), x = .ref o ∧ H1 o = none ∧ H2 = upd H1 o (.lst (ms.map V.int)) ∧ ms.length ≤ 1 ∧ ∀ j : Int, j ∈ ms ↔ Seg (L .one a) ns k j) := by
        rintro H2 rfl no
        refine ⟨Nat.zero_le _, fun o no' => ⟨o, [], rfl, no', rfl, by decide, fun j => ?_⟩⟩
        simp only [L]
        rw [seg_one]
        exact ⟨fun z => by simp at z, fun z => absurd z.2.1 no⟩
      refine ⟨_, rfl, _, rfl, rw', _, rfl, .inl (s1.seq hS), _, _, rfl, rfl, _, rfl, ite2 (fun e2 => ?_) (fun e2 => ?_)⟩
      · have lt : k < (ns.length : Int) := by
          have z := of_decide_eq_true e2
          rw [List.length_map] at z
          exact z
        have ltn : k.toNat < ns.length := by omega
        have ek : k = ((k.toNat : Nat) : Int) := by omega
        refine ⟨_, rfl, _, rfl, rw', _, _, _, rfl, rfl, s1.seq hS, at_of (v := V.int ns[k.toNat]) ek (by rw [List.getElem?_map, List.getElem?_eq_getElem ltn]; rfl), _, rfl, _, _, rfl, rfl, rfl, _, rfl, ite2 (fun e3 => ?_) (fun e3 => ?_)⟩
        · have e3 : ns[k.toNat] = a + 1 := V.int.inj (of_decide_eq_true e3)
          refine ⟨_, rfl, _, _, rfl, rfl, by show 1 ≤ sizeLine; decide, fun o no => ⟨o, [k + 1], rfl, no, rfl, by show 1 ≤ 1; decide, fun j => ?_⟩⟩
          simp only [L]
          rw [seg_one, List.mem_singleton, List.getElem?_eq_getElem ltn, e3]
          exact ⟨fun z => ⟨k0', rfl, z⟩, fun z => z.2.2⟩
        · refine em rfl fun z => e3 (decide_eq_true ?_)
          rw [List.getElem?_eq_getElem ltn] at z
          rw [Option.some.inj z]
      · refine em rfl fun z => e2 (decide_eq_true ?_)
        rw [List.length_map]
        have := (List.getElem?_eq_some_iff.mp z).1
        omega
    · rintro x H2 ⟨o, ms, rfl, no, rfl, lm, mm⟩
      exact q o ms _ (s1.trans (same_new no)) (s1.free no) upd_same (by omega) mm
  refine ⟨_, rfl, p, _, _, _, rfl, rfl, s1.kt _ _ t, at0, rfl, _, rfl, if_tag (fun c => ?_) (fun c2 => ?_)⟩
  · obtain ⟨s', rfl⟩ := tag_many c
    have hs1 := At.mono s1.kt _ _ hs
    unfold At at hs1
    obtain ⟨p', u, e, t1, a1⟩ := hs1
    obtain rfl := V.ref.inj e
    refine ⟨_, rfl, p, _, _, _, rfl, rfl, t1, at1, _, rfl, _, rfl, _, rfl, u, s', a, k, rw', ns, rfl, a1, by simpa only [wf] using w1, by simp only [dep] at dp; omega, s1.seq hS, ln, k0', k1', fun o ms H2 s2 no e2 lm mm => ?_⟩
    exact q o ms H2 (s1.trans s2) (s1.free no) e2 lm fun j => by simp only [L]; exact mm j
  have n1 : s ≠ .one := fun z => c1 (by rw [z]; rfl)
  have n2 : ∀ p', s ≠ .many p' := fun p' z => c2 (by rw [z]; rfl)
  -- found = []; here = [k]
  refine ⟨Nat.zero_le _, fun fo nfo => ?_⟩
  have s2 := s1.trans (same_new (o := .lst []) nfo)
  have efo : upd H1 fo (.lst []) fo = some (.lst (([] : List Int).map V.int)) := upd_same
  have nfo0 := s1.free nfo
  generalize upd H1 fo (.lst []) = H2 at s2 efo ⊢
  refine ⟨_, rfl, by show 1 ≤ sizeLine; decide, fun he nhe => ?_⟩
  have s3 := s2.trans (same_new (o := .lst [V.int k]) nhe)
  have efo3 : upd H2 he (.lst [V.int k]) fo = some (.lst (([] : List Int).map V.int)) := by rw [upd_ne (ne_of_none efo nhe)]; exact efo
  have ehe : upd H2 he (.lst [V.int k]) he = some (.lst (([k] : List Int).map V.int)) := upd_same
  have nef : he ≠ fo := (ne_of_none efo nhe).symm
  generalize upd H2 he (.lst [V.int k]) = H3 at s3 efo3 ehe ⊢
  -- low
  refine ⟨fun x H4 => ∃ lo : Int, x = .int lo ∧ H4 = H3 ∧ ∀ p' l h, s = .times p' l h → lo = (l : Int), ?_, ?_⟩
  · refine ⟨_, rfl, p, _, _, _, rfl, rfl, s3.kt _ _ t, at0, rfl, _, rfl, if_tag (fun c => ?_) (fun c => ⟨0, rfl, rfl, fun p' l h z => (c (by rw [z]; rfl)).elim⟩)⟩
    obtain ⟨p', l, h, rfl⟩ := tag_times c
    have hs1 := At.mono s3.kt _ _ hs
    unfold At at hs1
    obtain ⟨p'', u, e, t1, a1⟩ := hs1
    obtain rfl := V.ref.inj e
    exact ⟨_, rfl, p, _, _, _, rfl, rfl, t1, at2, l, rfl, rfl, fun p3 l3 h3 z => by injection z with z1 z2 z3; rw [z2]⟩
  rintro x H4 ⟨lo, rfl, rfl, hlo⟩
  -- the parts, one by one
  refine ⟨_, rfl, _, s, rfl, At.mono s3.kt _ _ hs, w1, n1, fun pp us H5 s5 tp ap => ?_⟩
  have lu := ap.length
  have few := lays_few w1
  refine ⟨pp, _, rfl, tp, for_it (walk_enumT (K := K) (a := pp) (xs := us)) (fun i σ H6 => ∃ (fs hs : List Int) (he : Addr) (v7 v8 : Option V),
      σ = [some (.ref p), some (.int (a + wts ((lays s).take i))), some (.ref rw'), some (.int k), some (.ref fo), some (.ref he), some (.int lo), v7, v8] ∧ Same H H6 ∧ SqT K H6 pp us ∧ Ats K H6 (lays s) us ∧ H6 fo = some (.lst (fs.map V.int)) ∧
      H6 he = some (.lst (hs.map V.int)) ∧ he ≠ fo ∧ fs.length ≤ 45 * i ∧ hs.length ≤ 45 ∧ (∀ j, j ∈ fs ↔ fnd s a ns k i j) ∧ ∀ j, j ∈ hs ↔ her s a ns k i j)
    ⟨[], [k], he, none, none, by simp only [List.take_zero, wts]; rw [Int.natCast_zero, Int.add_zero]; rfl, s3.trans s5, tp, ap, s5 _ _ efo3, s5 _ _ ehe, nef, Nat.zero_le _, by show 1 ≤ 45; decide, fun j => ⟨fun z => by simp at z, fun z => (fnd_zero z).elim⟩, fun j => by rw [List.mem_singleton, her_zero k0' k1']⟩
    (fun i σ H6 _ ⟨_, _, _, _, _, _, _, h, _⟩ => h) ?_ ?_⟩
  · rintro i x σ H6 H7 hi ⟨fs, gs, he, v7, v8, rfl, s6, t6, a6, ef6, eh6, nef, lf, lh, mf, mh⟩ ⟨T7, y, u, rfl, nT, rfl, ey, eu⟩
    obtain rfl : y = .int (i : Nat) := (Option.some.inj ey).symm
    have s7 := same_new (o := .tup [.int (i : Nat), u]) nT
    obtain ⟨s1', es1, a1⟩ := a6.get eu
    have m1 := List.mem_of_getElem? es1
    have wf1 := kids_wf w1 (lays_kid m1)
    have dep1 := kids_dep (lays_kid m1)
    refine ⟨T7, _, rfl, SqT.of upd_same, rfl, _, _, rfl, _, _, rfl, rfl, ?_⟩
    have a7 := At.mono (K := K) s7.kt _ _ a1
    have t7 := s7.kt (K := K) _ _ t6
    have aa7 := Ats.mono (K := K) s7.kt _ _ a6
    have ef7 := s7 _ _ ef6
    have eh7 := s7 _ _ eh6
    have sm7 := s6.trans s7
    show tMid _ _ _ _ (upd H6 T7 (.tup [.int (i : Nat), u]))
    generalize upd H6 T7 (.tup [.int (i : Nat), u]) = H7 at s7 a7 t7 aa7 ef7 eh7 sm7 ⊢
    refine ⟨fun σ H8 => ∃ (fs hs : List Int) (he : Addr), σ = [some (.ref p), some (.int (a + wts ((lays s).take i))), some (.ref rw'), some (.int k), some (.ref fo), some (.ref he), some (.int lo), some (.int (i : Nat)), some u] ∧ Same H H8 ∧ At K H8 s1' u ∧ SqT K H8 pp us ∧ Ats K H8 (lays s) us ∧
      H8 fo = some (.lst (fs.map V.int)) ∧ H8 he = some (.lst (hs.map V.int)) ∧ he ≠ fo ∧ fs.length ≤ 45 * (i + 1) ∧ hs.length ≤ 45 ∧ (∀ j, j ∈ fs ↔ fnd s a ns k (i + 1) j) ∧ ∀ j, j ∈ hs ↔ her s a ns k (i + 1) j, ?_, ?_⟩
    · refine ⟨_, rfl, p, _, _, _, rfl, rfl, sm7.kt _ _ t, at0, rfl, _, rfl, if_tag (fun c => ?_) (fun c => ?_)⟩
      · obtain ⟨ps, rfl⟩ := tag_either c
        refine ⟨_, rfl, _, rfl, _, rfl, _, rfl, _, rfl, u, s1', _, k, rw', ns, rfl, a7, wf1, by omega, sm7.seq hS, ln, k0', k1', fun o ms H8 s8 no e8 lm mm => ?_⟩
        have ef8 := s8 _ _ ef7
        have kp := kt_put (K := K) (o := .lst (fs.map V.int ++ ms.map V.int)) ef8
        refine ⟨fo, o, _, _, rfl, rfl, ef8, e8, fits (by simp only [List.length_map]; omega), ?_⟩
        refine ⟨fs ++ ms, gs, he, rfl, same_put (sm7.trans s8) nfo0, At.mono (s8.kt.trans kp) _ _ a7, kp _ _ (s8.kt _ _ t7), Ats.mono (s8.kt.trans kp) _ _ aa7, by rw [upd_same, List.map_append], by rw [upd_ne nef]; exact s8 _ _ eh7, nef, by rw [List.length_append]; omega, lh, fun j => ?_, mh⟩
        rw [List.mem_append, mf, mm]
        exact (fnd_either (show ps[i]? = some s1' from es1) j).symm
      · have no_e : ∀ ps, s ≠ .either ps := fun ps z => c (by rw [z]; rfl)
        refine ⟨fun σ H8 => ∃ fs : List Int, σ = [some (.ref p), some (.int (a + wts ((lays s).take i))), some (.ref rw'), some (.int k), some (.ref fo), some (.ref he), some (.int lo), some (.int (i : Nat)), some u] ∧ Same H H8 ∧ At K H8 s1' u ∧ SqT K H8 pp us ∧ Ats K H8 (lays s) us ∧
          H8 fo = some (.lst (fs.map V.int)) ∧ H8 he = some (.lst (gs.map V.int)) ∧ fs.length ≤ 45 * (i + 1) ∧ ∀ j, j ∈ fs ↔ fnd s a ns k (i + 1) j, ?_, ?_⟩
        · refine ⟨fun b H8 => H8 = H7 ∧ (b = true ↔ (∃ p' l h, s = .times p' l h) ∧ lo ≤ (i : Int)), ?_, ?_⟩
          · refine ⟨_, rfl, p, _, _, _, rfl, rfl, sm7.kt _ _ t, at0, rfl, _, rfl, if_tag (fun c => ?_) (fun c => ⟨rfl, (fun z => nomatch z), fun ⟨⟨p', l, h, z⟩, _⟩ => (c (by rw [z]; rfl)).elim⟩)⟩
            have st := tag_times c
            refine ⟨_, rfl, _, rfl, _, _, rfl, rfl, _, rfl, rfl, fun z => ⟨st, of_decide_eq_true z⟩, fun z => decide_eq_true z.2⟩
          rintro b H8 ⟨rfl, hb⟩
          refine ite2 (fun eb => ?_) (fun eb => ?_)
          · obtain ⟨⟨p', l, h, rfl⟩, le⟩ := hb.mp eb
            have el := hlo p' l h rfl
            subst el
            have kp := kt_put (K := K) (o := .lst (fs.map V.int ++ gs.map V.int)) ef7
            refine ⟨_, rfl, _, rfl, fo, he, _, _, rfl, rfl, ef7, eh7, fits (by simp only [List.length_map]; omega), ?_⟩
            refine ⟨fs ++ gs, rfl, same_put sm7 nfo0, At.mono kp _ _ a7, kp _ _ t7, Ats.mono kp _ _ aa7, by rw [upd_same, List.map_append], by rw [upd_ne nef]; exact eh7, by rw [List.length_append]; omega, fun j => ?_⟩
            rw [List.mem_append, mf, mh, fnd_times]
            exact ⟨fun z => z.imp id fun z => ⟨by omega, z⟩, fun z => z.imp id fun z => z.2⟩
          · refine ⟨fs, rfl, sm7, a7, t7, aa7, ef7, eh7, by omega, fun j => ?_⟩
            rw [mf]
            cases s with
            | one => exact absurd rfl n1
            | many p' => exact absurd rfl (n2 p')
            | either ps => exact absurd rfl (no_e ps)
            | row ps => exact Iff.rfl
            | times p' l h =>
              rw [fnd_times]
              have nl : ¬ l ≤ i := fun z => eb (hb.mpr ⟨⟨p', l, h, rfl⟩, by rw [hlo p' l h rfl]; omega⟩)
              exact ⟨.inl, fun z => z.elim id fun z => absurd z.1 nl⟩
        rintro σ H8 ⟨fs8, rfl, sm8, a8, t8, aa8, ef8, eh8, lf8, mf8⟩
        refine ⟨_, rfl, _, rfl, _, rfl, _, rfl, u, s1', _, rw', he, ns, gs, rfl, a8, wf1, by omega, sm8.seq hS, ln, SqL.of eh8, lh, fun x hx => her_bounds k0' k1' ((mh x).mp hx), fun o ms H9 s9 no e9 lm mm => ?_⟩
        refine ⟨fs8, ms, o, rfl, sm8.trans s9, At.mono s9.kt _ _ a8, s9.kt _ _ t8, Ats.mono s9.kt _ _ aa8, s9 _ _ ef8, e9, (ne_of_none ef8 no).symm, lf8, lm, mf8, fun j => ?_⟩
        rw [mm, her_next no_e es1]
        simp only [mh]
    rintro σ H8 ⟨fs8, hs8, he8, rfl, sm8, a8, t8, aa8, ef8, eh8, nef8, lf8, lh8, mf8, mh8⟩
    refine ⟨_, rfl, _, rfl, u, s1', rfl, a8, wf1, by omega, fun H9 s9 => ⟨_, _, rfl, rfl, ?_⟩⟩
    have ew : a + ((wts ((lays s).take (i + 1)) : Nat) : Int) = a + ((wts ((lays s).take i) : Nat) : Int) + ((wt s1' : Nat) : Int) := by
      rw [lays_wts es1]; omega
    exact ⟨fs8, hs8, he8, _, _, by rw [ew]; rfl, sm8.trans s9, s9.kt _ _ t8, Ats.mono s9.kt _ _ aa8, s9 _ _ ef8, s9 _ _ eh8, nef8, lf8, lh8, mf8, mh8⟩
  · rintro σ H6 ⟨fs, gs, he, v7, v8, rfl, s6, t6, a6, ef6, eh6, nef, lf, lh, mf, mh⟩
    rw [lu] at lf mf mh
    refine ⟨fun σ H8 => ∃ fs : List Int, σ = [some (.ref p), some (.int (a + wts ((lays s).take us.length))), some (.ref rw'), some (.int k), some (.ref fo), some (.ref he), some (.int lo), v7, v8] ∧ Same H H8 ∧ H8 fo = some (.lst (fs.map V.int)) ∧ fs.length ≤ 400 ∧ ∀ j, j ∈ fs ↔ Seg (L s a) ns k j, ?_, ?_⟩
    · refine ⟨_, rfl, p, _, _, _, rfl, rfl, s6.kt _ _ t, at0, rfl, _, rfl, if_ntag (fun c => ?_) (fun c => ?_)⟩
      · have no_e : ∀ ps, s ≠ .either ps := fun ps z => c (by rw [z]; rfl)
        refine ⟨_, rfl, _, rfl, fo, he, _, _, rfl, rfl, ef6, eh6, fits (by simp only [List.length_map]; omega), ?_⟩
        refine ⟨fs ++ gs, rfl, same_put s6 nfo0, by rw [upd_same, List.map_append], by rw [List.length_append]; omega, fun j => ?_⟩
        rw [List.mem_append, mf, mh]
        exact all_other w1 n1 n2 no_e
      · obtain ⟨ps, rfl⟩ := tag_either c
        exact ⟨fs, rfl, s6, ef6, by omega, fun j => (mf j).trans all_either⟩
    rintro σ H8 ⟨fs8, rfl, sm8, ef8, lf8, mf8⟩
    have bd : ∀ j ∈ fs8, 0 ≤ j ∧ j ≤ (ns.length : Int) := fun j hj => by
      have := ((mf8 j).mp hj).bounds
      omega
    refine ⟨_, rfl, fo, fs8, rfl, SqL.of ef8, by omega, ⟨0, 41, by decide, fun x hx => by have := bd x hx; omega⟩, fun ms o H9 srt mm s9 no e9 => ?_⟩
    refine q o ms H9 (sm8.trans s9) (sm8.free no) e9 ?_ fun j => (mm j).trans (mf8 j)
    have := srt_few (n := ns.length) srt fun j hj => bd j ((mm j).mp hj)
    omega
end
end K12

/-! the plan: its places and what can stand behind which -/
namespace K12
open PySem L2
/-- a plan's attributes -/
def pf (m x : Addr) : List (Str × V) := putF "nexts" (.ref x) (putF "marks" (.ref m) [])
theorem mk_nx : ¬ (("marks" : Str) = "nexts") := by decide +kernel
theorem pf_marks (m x : Addr) : (pf m x).lookup ("marks" : Str) = some (.ref m) := by
  unfold pf
  rw [lookup_putF, if_neg mk_nx, lookup_putF, if_pos rfl]
theorem pf_nexts (m x : Addr) : (pf m x).lookup ("nexts" : Str) = some (.ref x) := by
  unfold pf
  rw [lookup_putF, if_pos rfl]
theorem pf_no (m x : Addr) {f : Str} (h1 : ¬ f = "nexts") (h2 : ¬ f = "marks") : (pf m x).lookup f = none := by
  unfold pf
  rw [lookup_putF, if_neg h1, lookup_putF, if_neg h2]
  rfl
/-- a plan at p: its marks at m, its nexts at x with the rows at rs; n places; N: the nexts of each -/
structure PlanAt (C : Addr) (H : Hp) (p m x : Addr) (rs : List Addr) (n : Nat) (N : Int → List Int) : Prop where
  ob : ∃ dx, H p = some (.ins C dx (pf m x))
  mrk : ∃ ms, H m = some (.lst ms) ∧ ms.length = n + 1
  nx : H x = some (.lst (rs.map V.ref))
  len : rs.length = n + 1
  row : ∀ (i : Nat) (r : Addr), rs[i]? = some r → H r = some (.lst ((N i).map V.int))
  nd : (m :: x :: rs).Nodup
  out : ∀ i : Int, i < 0 ∨ (n : Int) < i → N i = []
  inn : ∀ i : Int, ∀ y ∈ N i, 1 ≤ y ∧ y ≤ (n : Int)
  un : ∀ i : Int, (N i).Nodup
  small : n ≤ 1000
/-- the plan's own lists -/
def Foot (m x : Addr) (rs : List Addr) (b : Addr) : Prop := b = m ∨ b = x ∨ b ∈ rs
section
variable {C : Addr} {H H' : Hp} {p m x : Addr} {rs : List Addr} {n : Nat} {N : Int → List Int}
theorem PlanAt.few (h : PlanAt C H p m x rs n N) (i : Int) : (N i).length ≤ n := nodup_few n (N i) 1 (h.un i) fun y hy => by have := h.inn i y hy; omega
theorem PlanAt.foot (h : PlanAt C H p m x rs n N) : ∀ b, Foot m x rs b → ∃ xs, H b = some (.lst xs) := fun b e => by
  rcases e with rfl | rfl | e
  · obtain ⟨ms, e, _⟩ := h.mrk
    exact ⟨ms, e⟩
  · exact ⟨_, h.nx⟩
  · obtain ⟨i, e⟩ := List.getElem?_of_mem e
    exact ⟨_, h.row i b e⟩
theorem PlanAt.lists (h : PlanAt C H p m x rs n N) : Lists H (Foot m x rs) := fun b e => .inr (h.foot b e)
theorem PlanAt.np (h : PlanAt C H p m x rs n N) : ¬ Foot m x rs p := fun e => by
  obtain ⟨xs, e⟩ := h.foot p e
  obtain ⟨dx, q⟩ := h.ob
  rw [q] at e; cases e
/-- what does not touch the plan leaves it -/
theorem PlanAt.keep {S : Addr → Prop} (h : PlanAt C H p m x rs n N) (k : Keep S H H') (n1 : ∀ b, Foot m x rs b → ¬ S b) (n2 : ¬ S p) : PlanAt C H' p m x rs n N :=
  ⟨let ⟨dx, q⟩ := h.ob; ⟨dx, k.kp _ _ q n2⟩, let ⟨ms, e, l⟩ := h.mrk; ⟨ms, k.kp _ _ e (n1 m (.inl rfl)), l⟩, k.kp _ _ h.nx (n1 x (.inr (.inl rfl))), h.len, fun i r e => k.kp _ _ (h.row i r e) (n1 r (.inr (.inr (List.mem_of_getElem? e)))), h.nd, h.out, h.inn, h.un, h.small⟩
theorem PlanAt.same (h : PlanAt C H p m x rs n N) (s : Same H H') : PlanAt C H' p m x rs n N := h.keep (Keep.of_same (S := fun _ => False) s) (fun _ _ z => z) fun z => z
/-- a row of nexts -/
theorem PlanAt.at_ (h : PlanAt C H p m x rs n N) {i : Int} (h0 : 0 ≤ i) (h1 : i ≤ n) : ∃ r, rs[i.toNat]? = some r ∧ atI (rs.map V.ref) i = some (.ref r) ∧ H r = some (.lst ((N i).map V.int)) := by
  have lt : i.toNat < rs.length := by rw [h.len]; omega
  have e : i = ((i.toNat : Nat) : Int) := by omega
  have q := h.row i.toNat rs[i.toNat] (List.getElem?_eq_getElem lt)
  rw [← e] at q
  exact ⟨rs[i.toNat], List.getElem?_eq_getElem lt, at_of e (by rw [List.getElem?_map, List.getElem?_eq_getElem lt]; rfl), q⟩
/-- one next more -/
theorem PlanAt.put (h : PlanAt C H p m x rs n N) {i z : Int} {r : Addr} (h0 : 0 ≤ i) (h1 : i ≤ n) (er : rs[i.toNat]? = some r) (z0 : 1 ≤ z) (z1 : z ≤ n) (nz : ¬ z ∈ N i) :
    PlanAt C (upd H r (.lst ((N i ++ [z]).map V.int))) p m x rs n (fun j => if j = i then N i ++ [z] else N j) := by
  have mr := List.mem_of_getElem? er
  have nd := h.nd
  obtain ⟨nd1, nd2⟩ := List.nodup_cons.mp nd
  obtain ⟨nd3, nd4⟩ := List.nodup_cons.mp nd2
  have nm : m ≠ r := fun e => nd1 (by rw [e]; exact List.mem_cons_of_mem _ mr)
  have nxr : x ≠ r := fun e => nd3 (by rw [e]; exact mr)
  have npr : p ≠ r := fun e => h.np (by rw [e]; exact .inr (.inr mr))
  refine ⟨?_, ?_, ?_, h.len, fun j r' e => ?_, nd, fun j hj => ?_, fun j y hy => ?_, fun j => ?_, h.small⟩
  · obtain ⟨dx, q⟩ := h.ob
    exact ⟨dx, by rw [upd_ne npr]; exact q⟩
  · obtain ⟨ms, e, l⟩ := h.mrk
    exact ⟨ms, by rw [upd_ne nm]; exact e, l⟩
  · rw [upd_ne nxr]; exact h.nx
  · by_cases c : (j : Int) = i
    · have ej : j = i.toNat := by omega
      subst ej
      have e2 : r' = r := Option.some.inj (e.symm.trans er)
      subst e2
      rw [if_pos c, upd_same]
    · rw [if_neg c]
      have ne : r' ≠ r := fun e2 => by
        subst e2
        have := nd_ix nd4 e er
        omega
      rw [upd_ne ne]; exact h.row j r' e
  · by_cases c : j = i
    · omega
    · rw [if_neg c]; exact h.out j hj
  · by_cases c : j = i
    · rw [if_pos c] at hy
      rcases List.mem_append.mp hy with hy | hy
      · exact h.inn i y hy
      · rw [List.mem_singleton.mp hy]; exact ⟨z0, z1⟩
    · rw [if_neg c] at hy; exact h.inn j y hy
  · by_cases c : j = i
    · rw [if_pos c]
      exact List.nodup_append.mpr ⟨h.un i, by simp, fun b hb c hc => by rw [List.mem_singleton.mp hc]; rintro rfl; exact nz hb⟩
    · rw [if_neg c]; exact h.un j
end
section
variable {P : Program} {w : World} {K : PySem.W.Frag} {mg : Str → Option Value} {base : Heap} {C : Addr}
/-- a method of Plan that stands there -/
structure DefM (K : PySem.W.Frag) (C : Addr) (x qual : Str) (st : Stmt) (ps : List Str) (f : Addr) (fd : FuncData) : Prop where
  F : Fun K x qual st f fd
  m : Meth K C x f
  b : Binds K fd ps []
theorem DefM.has {x qual : Str} {st : Stmt} {ps : List Str} {f : Addr} {fd : FuncData} {k : Nat} {sp : Sp} (D : DefM K C x qual st ps f fd) (h : FnOk P w K mg base CX0 k f fd ps sp) : HasM P w K mg base C x k ps sp := ⟨f, fd, h, D.m, D.b⟩
def spInit (C : Addr) : Sp := fun vs H Q _ => ∃ (p dx : Addr), vs = [.ref p] ∧ H p = some (.ins C dx []) ∧
  ∀ (m x r : Addr) (H' : Hp), PlanAt C H' p m x [r] 0 (fun _ => []) → H m = none → H x = none → H r = none → (∀ b o, H b = some o → b ≠ p → H' b = some o) → Q .non H'
theorem sc_init : FnScope ["self"] ["self"] (defScope s_init) := ⟨rfl, rfl, rfl, by decide +kernel, rfl, by decide +kernel, by decide +kernel⟩
theorem ok_init {f : Addr} {fd : FuncData} (F : Fun K "__init__" "Plan.__init__" s_init f fd) (M : Mk K C f) (b : Binds K fd ["self"] []) (T : Txt K mg C) : HasC P w K mg base C "Plan" 1 ["self"] (spInit C) := by
  refine ⟨f, fd, F.ok sc_init (fun vs H Q E h => ?_) (fun cdv A outer s H vs Q E hr h => ?_), M, T.mgC, b⟩
  · obtain ⟨p, dx, rfl, _⟩ := h
    rfl
  obtain ⟨p, dx, rfl, hp, q⟩ := h
  have nd := sc_init.nd
  refine ⟨_, (pss_cons (ps_fld (pv 0) (pe_lst (pa_cons pe_str pa_nil)) rfl)
      (pss_one (ps_fld (pv 0) (pe_lst (pa_cons (pe_lst pa_nil) pa_nil)) rfl))), ?_⟩
  refine ⟨by show 1 ≤ sizeLine; decide, fun m nm => ⟨_, rfl, p, C, dx, [], rfl, by rw [upd_ne (ne_of_none hp nm)]; exact hp, T.cl, T.nM, by show 0 < 1000; decide, ?_⟩⟩
  have npm : p ≠ m := ne_of_none hp nm
  refine ⟨Nat.zero_le _, fun r nr => ⟨by show 1 ≤ sizeLine; decide, fun x nx => ?_⟩⟩
  have e1 : upd (upd H m (.lst [.str ""])) p (.ins C dx (putF "marks" (.ref m) [])) p = some (.ins C dx (putF "marks" (.ref m) [])) := upd_same
  have e2 : upd (upd H m (.lst [.str ""])) p (.ins C dx (putF "marks" (.ref m) [])) m = some (.lst [.str ""]) := by rw [upd_ne npm.symm, upd_same]
  have kp : ∀ b o, H b = some o → b ≠ p → upd (upd H m (.lst [.str ""])) p (.ins C dx (putF "marks" (.ref m) [])) b = some o := fun b o e hb => by rw [upd_ne hb, upd_ne (ne_of_none e nm)]; exact e
  generalize hH1 : upd (upd H m (.lst [.str ""])) p (.ins C dx (putF "marks" (.ref m) [])) = H1 at e1 e2 kp nr nx ⊢
  have npr : p ≠ r := ne_of_none e1 nr
  have nmr : m ≠ r := ne_of_none e2 nr
  have e3 : upd H1 r (.lst []) r = some (.lst []) := upd_same
  have npx : p ≠ x := ne_of_none (by rw [upd_ne npr]; exact e1) nx
  have nmx : m ≠ x := ne_of_none (by rw [upd_ne nmr]; exact e2) nx
  have nrx : r ≠ x := ne_of_none e3 nx
  have nr0 : H r = none := by
    cases z : H r with
    | none => rfl
    | some o => rw [kp r o z (Ne.symm npr)] at nr; cases nr
  have nx0 : H x = none := by
    rw [upd_ne (Ne.symm nrx)] at nx
    cases z : H x with
    | none => rfl
    | some o => rw [kp x o z (Ne.symm npx)] at nx; cases nx
  refine ⟨_, rfl, p, C, dx, _, rfl, by rw [upd_ne npx, upd_ne npr]; exact e1, T.cl, T.nN, by show 1 < 1000; decide, ?_⟩
  refine q m x r _ ⟨⟨dx, upd_same⟩, ⟨[.str ""], by rw [upd_ne npm.symm, upd_ne nmx, upd_ne nmr]; exact e2, rfl⟩, by rw [upd_ne npx.symm, upd_same]; rfl, rfl, fun i r' e => ?_, ?_, fun _ _ => rfl, (fun _ y hy => nomatch hy), fun _ => List.nodup_nil, by decide⟩ nm nx0 nr0 fun b o e hb => ?_
  · have e' : i = 0 ∧ r' = r := by
      cases i with
      | zero => exact ⟨rfl, (Option.some.inj e).symm⟩
      | succ i => simp at e
    obtain ⟨rfl, rfl⟩ := e'
    rw [upd_ne npr.symm, upd_ne nrx]; exact e3
  · exact List.nodup_cons.mpr ⟨by simp [nmx, nmr], List.nodup_cons.mpr ⟨by simp [Ne.symm nrx], by simp⟩⟩
  · rw [upd_ne hb, upd_ne (ne_of_none (H := H) e nx0), upd_ne (ne_of_none (H := H) e nr0)]
    exact kp b o e hb
def spLay (C : Addr) : Sp := fun vs H Q _ => ∃ (p m x : Addr) (z : Str) (rs : List Addr) (n : Nat) (N : Int → List Int), vs = [.ref p, .str z] ∧ PlanAt C H p m x rs n N ∧ n < 1000 ∧
  ∀ (r : Addr) (H' : Hp), PlanAt C H' p m x (rs ++ [r]) (n + 1) N → H r = none → Keep (Foot m x rs) H H' → Q (.int (n + 1)) H'
theorem sc_lay : FnScope ["self", "signs"] ["self", "signs"] (defScope s_lay) := ⟨rfl, rfl, rfl, by decide +kernel, rfl, by decide +kernel, by decide +kernel⟩
theorem ok_lay {f : Addr} {fd : FuncData} (D : DefM K C "lay" "Plan.lay" s_lay ["self", "signs"] f fd) (T : Txt K mg C) : HasM P w K mg base C "lay" 1 ["self", "signs"] (spLay C) := by
  refine D.has (D.F.ok sc_lay (fun vs H Q E h => ?_) (fun cdv A outer s H vs Q E hr h => ?_))
  · obtain ⟨p, m, x, z, rs, n, N, rfl, _⟩ := h
    rfl
  obtain ⟨p, m, x, z, rs, n, N, rfl, h, hn, q⟩ := h
  have nd := sc_lay.nd
  refine ⟨_, (pss_cons (ps_expr (pe_bm PySem.F.plainAttrs_list PySem.F.slot_list_append PySem.F.type_list_append mt_append (pe_fld (pv 0) rfl) (pa_cons (pv 1) pa_nil)))
      (pss_cons (ps_expr (pe_bm PySem.F.plainAttrs_list PySem.F.slot_list_append PySem.F.type_list_append mt_append (pe_fld (pv 0) rfl) (pa_cons (pe_lst pa_nil) pa_nil)))
      (pss_one (ps_ret (pe_op op_sub (pe_callB call_len_seq (by rfl) T.m_len (by decide +kernel) (pa_cons (pe_fld (pv 0) rfl) pa_nil)) pe_int))))), ?_⟩
  obtain ⟨dx, ob⟩ := h.ob
  obtain ⟨ms, em, lm⟩ := h.mrk
  obtain ⟨nd1, nd2⟩ := List.nodup_cons.mp h.nd
  obtain ⟨nd3, nd4⟩ := List.nodup_cons.mp nd2
  have nmx : m ≠ x := fun e => nd1 (by rw [e]; exact List.mem_cons_self)
  have npm : p ≠ m := fun e => h.np (.inl e)
  have npx : p ≠ x := fun e => h.np (.inr (.inl e))
  refine ⟨_, rfl, p, C, dx, _, _, rfl, ob, T.cl, T.nM, pf_marks _ _, .inl ⟨rfl, _, SqL.of em⟩, _, rfl, m, _, _, rfl, rfl, em, fits' (by omega), ?_⟩
  have ob1 : upd H m (.lst (ms ++ [.str z])) p = some (.ins C dx (pf m x)) := by rw [upd_ne npm]; exact ob
  have nx1 : upd H m (.lst (ms ++ [.str z])) x = some (.lst (rs.map V.ref)) := by rw [upd_ne nmx.symm]; exact h.nx
  refine ⟨_, rfl, p, C, dx, _, _, rfl, ob1, T.cl, T.nN, pf_nexts _ _, .inl ⟨rfl, _, SqL.of nx1⟩, Nat.zero_le _, fun r nr => ?_⟩
  have nmr : r ≠ m := fun e => by rw [e, upd_same] at nr; cases nr
  rw [upd_ne nmr] at nr
  have nxr : x ≠ r := ne_of_none h.nx nr
  have npr : p ≠ r := ne_of_none ob nr
  have nrr : ¬ r ∈ rs := fun e => by
    obtain ⟨xs, e⟩ := h.foot r (.inr (.inr e))
    rw [nr] at e; cases e
  refine ⟨x, _, _, rfl, rfl, by rw [upd_ne nxr]; exact nx1, fits' (by rw [List.length_map, h.len]; omega), ?_⟩
  have final : ∀ b, upd (upd (upd H m (.lst (ms ++ [.str z]))) r (.lst [])) x (.lst (rs.map V.ref ++ [.ref r])) b = if b = x then some (.lst ((rs ++ [r]).map V.ref)) else if b = r then some (.lst []) else if b = m then some (.lst (ms ++ [.str z])) else H b := fun b => by
    unfold upd
    rw [List.map_append]
    rfl
  generalize upd (upd (upd H m (.lst (ms ++ [.str z]))) r (.lst [])) x (.lst (rs.map V.ref ++ [.ref r])) = H3 at final ⊢
  have ob3 : H3 p = some (.ins C dx (pf m x)) := by rw [final, if_neg npx, if_neg npr, if_neg npm]; exact ob
  have em3 : H3 m = some (.lst (ms ++ [.str z])) := by rw [final, if_neg nmx, if_neg (Ne.symm nmr), if_pos rfl]
  refine ⟨_, rfl, p, C, dx, _, _, rfl, ob3, T.cl, T.nM, pf_marks _ _, m, _, rfl, .inl (SqL.of em3), _, _, rfl, rfl, ?_⟩
  have ev : (((ms ++ [V.str z]).length : Nat) : Int) - 1 = (n : Int) + 1 := by
    rw [List.length_append, List.length_singleton, lm]; omega
  show Q (.int ((((ms ++ [V.str z]).length : Nat) : Int) - 1)) H3
  rw [ev]
  refine q r H3 ⟨⟨dx, ob3⟩, ⟨_, em3, by rw [List.length_append, List.length_singleton, lm]⟩, by rw [final, if_pos rfl], by rw [List.length_append, List.length_singleton, h.len], fun i r' e => ?_, ?_, fun i hi => h.out i (by omega), fun i y hy => ?_, h.un, by omega⟩ nr ⟨fun b o e nb => ?_, fun b e => ?_⟩
  · by_cases c : i < rs.length
    · rw [List.getElem?_append_left c] at e
      have mr := List.mem_of_getElem? e
      have n1 : r' ≠ x := fun z => nd3 (by rw [← z]; exact mr)
      have n2 : r' ≠ r := fun z => nrr (by rw [← z]; exact mr)
      have n3 : r' ≠ m := fun z => nd1 (by rw [← z]; exact List.mem_cons_of_mem _ mr)
      rw [final, if_neg n1, if_neg n2, if_neg n3]
      exact h.row i r' e
    · have ei : i = rs.length := by
        have l1 := (List.getElem?_eq_some_iff.mp e).1
        rw [List.length_append, List.length_singleton] at l1
        omega
      subst ei
      rw [List.getElem?_append_right (Nat.le_refl _), Nat.sub_self] at e
      obtain rfl : r = r' := Option.some.inj e
      rw [final, if_neg (Ne.symm nxr), if_pos rfl, h.out _ (.inr (by rw [h.len]; omega))]
      rfl
  · have e : m :: x :: (rs ++ [r]) = (m :: x :: rs) ++ [r] := rfl
    rw [e]
    refine List.nodup_append.mpr ⟨h.nd, by simp, fun b hb c hc => ?_⟩
    rw [List.mem_singleton.mp hc]
    rintro rfl
    rcases List.mem_cons.mp hb with z | hb
    · exact nmr z
    · rcases List.mem_cons.mp hb with z | hb
      · exact nxr z.symm
      · exact nrr hb
  · have := h.inn i y hy
    omega
  · have n1 : b ≠ x := fun z => nb (.inr (.inl z))
    have n3 : b ≠ m := fun z => nb (.inl z)
    rw [final, if_neg n1, if_neg (ne_of_none (H := H) e nr), if_neg n3]
    exact e
  · rw [final]
    split
    · exact fun z => nomatch z
    · split
      · exact fun z => nomatch z
      · split
        · exact fun z => nomatch z
        · exact e
end
end K12

/-! Plan.link, in_turn -/
namespace K12
open PySem L2
section
variable {P : Program} {w : World} {K : PySem.W.Frag} {mg : Str → Option Value} {base : Heap} {C : Addr}
def spLink (C : Addr) : Sp := fun vs H Q _ => ∃ (p m x a b : Addr) (rs : List Addr) (n : Nat) (N : Int → List Int) (as bs : List Int), vs = [.ref p, .ref a, .ref b] ∧ PlanAt C H p m x rs n N ∧ H a = some (.lst (as.map V.int)) ∧ H b = some (.lst (bs.map V.int)) ∧ ¬ a ∈ rs ∧ ¬ b ∈ rs ∧
  (∀ i ∈ as, 0 ≤ i ∧ i ≤ (n : Int)) ∧ (∀ j ∈ bs, 1 ≤ j ∧ j ≤ (n : Int)) ∧
  ∀ (N1 : Int → List Int) (H' : Hp), PlanAt C H' p m x rs n N1 → (∀ i j, j ∈ N1 i ↔ j ∈ N i ∨ (i ∈ as ∧ j ∈ bs)) → Keep (fun c => c ∈ rs) H H' → Q .non H'
theorem sc_link : FnScope ["self", "places", "others", "place", "other"] ["self", "places", "others"] (defScope s_link) := ⟨rfl, rfl, rfl, by decide +kernel, rfl, by decide +kernel, by decide +kernel⟩
theorem ok_link {f : Addr} {fd : FuncData} (D : DefM K C "link" "Plan.link" s_link ["self", "places", "others"] f fd) (T : Txt K mg C) : HasM P w K mg base C "link" 1 ["self", "places", "others"] (spLink C) := by
  refine D.has (D.F.ok sc_link (fun vs H Q E h => ?_) (fun cdv A outer s H vs Q E hr h => ?_))
  · obtain ⟨p, m, x, a, b, rs, n, N, as, bs, rfl, _⟩ := h
    rfl
  obtain ⟨p, m, x, a, b, rs, n, N, as, bs, rfl, h, ea, eb, na, nb, ba, bb, q⟩ := h
  have nd := sc_link.nd
  refine ⟨_, (pss_one (ps_for PassesOwn.never rfl (pi_list (pv 1)) (pg_name (i := 3) nd rfl (Or.inl rfl)) (pss_one (ps_for PassesOwn.never rfl (pi_list (pv 2)) (pg_name (i := 4) nd rfl (Or.inl rfl)) (pss_one (ps_if (pt_cmpR op_notIn_seq (pv 4) (pe_ix ix_list (pe_fld (pv 0) rfl) (pv 3) (fun _ _ => rfl)) rfl) (pss_one (ps_expr (pe_bm PySem.F.plainAttrs_list PySem.F.slot_list_append PySem.F.type_list_append mt_append (pe_ix ix_list (pe_fld (pv 0) rfl) (pv 3) (fun _ _ => rfl)) (pa_cons (pv 4) pa_nil)))) pss_nil)))))), ?_⟩
  refine ⟨_, rfl, a, rfl, ⟨_, SqL.of ea⟩, for_list (K := K) (a := a) (xs := as.map V.int) (fun i σ H1 => ∃ (v3 v4 : Option V) (N1 : Int → List Int), σ = [some (.ref p), some (.ref a), some (.ref b), v3, v4] ∧ PlanAt C H1 p m x rs n N1 ∧ (∀ i' j, j ∈ N1 i' ↔ j ∈ N i' ∨ (i' ∈ as.take i ∧ j ∈ bs)) ∧ Keep (fun c => c ∈ rs) H H1)
    ⟨none, none, N, rfl, h, fun i j => by simp, Keep.refl H⟩ (fun i σ H1 _ ⟨_, _, _, _, _, _, k⟩ => SqL.of (k.kp _ _ ea na)) ?_ ?_⟩
  · rintro i y σ H1 hy ⟨v3, v4, N1, rfl, h1, m1, k1⟩
    rw [List.getElem?_map] at hy
    obtain ⟨pl, hpl, rfl⟩ := Option.map_eq_some_iff.mp hy
    have mpl := List.mem_of_getElem? hpl
    obtain ⟨p0, p1⟩ := ba pl mpl
    have tk : ∀ z, z ∈ as.take (i + 1) ↔ z ∈ as.take i ∨ z = pl := fun z => by
      rw [List.take_add_one, hpl]; simp
    refine ⟨_, rfl, b, rfl, ⟨_, SqL.of (k1.kp _ _ eb nb)⟩, for_list (K := K) (a := b) (xs := bs.map V.int) (fun k σ H2 => ∃ (v4 : Option V) (N2 : Int → List Int), σ = [some (.ref p), some (.ref a), some (.ref b), some (.int pl), v4] ∧ PlanAt C H2 p m x rs n N2 ∧ (∀ i' j, j ∈ N2 i' ↔ j ∈ N1 i' ∨ (i' = pl ∧ j ∈ bs.take k)) ∧ Keep (fun c => c ∈ rs) H H2)
      ⟨v4, N1, rfl, h1, fun i j => by simp, k1⟩ (fun i σ H2 _ ⟨_, _, _, _, _, k⟩ => SqL.of (k.kp _ _ eb nb)) ?_ ?_⟩
    · rintro k y σ H2 hy ⟨v4, N2, rfl, h2, m2, k2⟩
      rw [List.getElem?_map] at hy
      obtain ⟨z, hz, rfl⟩ := Option.map_eq_some_iff.mp hy
      obtain ⟨z0, z1⟩ := bb z (List.mem_of_getElem? hz)
      have tk2 : ∀ j, j ∈ bs.take (k + 1) ↔ j ∈ bs.take k ∨ j = z := fun j => by
        rw [List.take_add_one, hz]; simp
      obtain ⟨dx, ob⟩ := h2.ob
      obtain ⟨r, er, ar, tr⟩ := h2.at_ p0 p1
      refine ⟨_, rfl, _, rfl, p, C, dx, _, _, rfl, ob, T.cl, T.nN, pf_nexts _ _, _, rfl, x, _, _, _, rfl, rfl, SqL.of h2.nx, ar, r, _, rfl, .inl (SqL.of tr), rfl, flat_ints _, _, rfl, ?_⟩
      rw [inV_ints]
      refine ite2 (fun e => ?_) (fun e => ?_)
      · have nz : ¬ z ∈ N2 pl := by simpa using e
        refine ⟨_, rfl, p, C, dx, _, _, rfl, ob, T.cl, T.nN, pf_nexts _ _, _, rfl, x, _, _, _, rfl, rfl, SqL.of h2.nx, ar, .inl ⟨rfl, _, SqL.of tr⟩, _, rfl, r, _, _, rfl, rfl, tr, fits' (by have := h2.few pl; have := h2.small; rw [List.length_map]; omega), ?_⟩
        have h3 := h2.put p0 p1 er z0 z1 nz
        rw [List.map_append] at h3
        refine ⟨_, _, rfl, h3, fun i' j => ?_, k2.trans (Keep.put (S := fun c => c ∈ rs) (List.mem_of_getElem? er)) fun _ _ z => z⟩
        by_cases c : i' = pl
        · rw [if_pos c, List.mem_append, List.mem_singleton, tk2]
          subst c
          rw [m2]
          constructor
          · rintro ((q | q) | q)
            · exact .inl q
            · exact .inr ⟨rfl, .inl q.2⟩
            · exact .inr ⟨rfl, .inr q⟩
          · rintro (q | ⟨_, q | q⟩)
            · exact .inl (.inl q)
            · exact .inl (.inr ⟨rfl, q⟩)
            · exact .inr q
        · rw [if_neg c, m2]
          exact ⟨fun q => q.imp id fun q => absurd q.1 c, fun q => q.imp id fun q => absurd q.1 c⟩
      · have yz : z ∈ N2 pl := by
          cases c : decide (z ∈ N2 pl) with
          | true => exact of_decide_eq_true c
          | false => rw [c] at e; exact absurd rfl e
        refine ⟨_, N2, rfl, h2, fun i' j => ?_, k2⟩
        rw [m2, tk2]
        constructor
        · exact fun q => q.imp id fun q => ⟨q.1, .inl q.2⟩
        · rintro (q | ⟨rfl, q | rfl⟩)
          · exact .inl q
          · exact .inr ⟨rfl, q⟩
          · exact (m2 i' j).mp yz
    · rintro σ H2 ⟨v4, N2, rfl, h2, m2, k2⟩
      rw [List.length_map, List.take_length] at m2
      refine ⟨_, _, N2, rfl, h2, fun i' j => ?_, k2⟩
      rw [m2, m1, tk]
      constructor
      · rintro ((q | ⟨q1, q2⟩) | ⟨q1, q2⟩)
        · exact .inl q
        · exact .inr ⟨.inl q1, q2⟩
        · exact .inr ⟨.inr q1, q2⟩
      · rintro (q | ⟨q1 | q1, q2⟩)
        · exact .inl (.inl q)
        · exact .inl (.inr ⟨q1, q2⟩)
        · exact .inr ⟨q1, q2⟩
  · rintro σ H1 ⟨v3, v4, N1, rfl, h1, m1, k1⟩
    rw [List.length_map, List.take_length] at m1
    exact q N1 H1 h1 m1 k1
/-- what begins and what ends, as told: F, E, whether the empty one; the two lists stand apart from S -/
def EndsAt (K : PySem.W.Frag) (H : Hp) (S : Addr → Prop) (t : Addr) (F E : List Int) (e : Bool) : Prop :=
  ∃ fa ea, SqT K H t [.ref fa, .ref ea, .bl e] ∧ H fa = some (.lst (F.map V.int)) ∧ H ea = some (.lst (E.map V.int)) ∧ ¬ S fa ∧ ¬ S ea
def spInTurn (K : PySem.W.Frag) (C : Addr) : Sp := fun vs H Q _ => ∃ (p m x t1 t2 : Addr) (rs : List Addr) (n : Nat) (N : Int → List Int) (S : Addr → Prop) (F1 E1 F2 E2 : List Int) (e1 e2 : Bool), vs = [.ref p, .ref t1, .ref t2] ∧ PlanAt C H p m x rs n N ∧
  (∀ b, Foot m x rs b → S b) ∧ (∀ b, S b → H b ≠ none) ∧ EndsAt K H S t1 F1 E1 e1 ∧ EndsAt K H S t2 F2 E2 e2 ∧ (∀ i ∈ E1, 0 ≤ i ∧ i ≤ (n : Int)) ∧ (∀ j ∈ F2, 1 ≤ j ∧ j ≤ (n : Int)) ∧ F1.length + F2.length ≤ 10000 ∧ E1.length + E2.length ≤ 10000 ∧
  ∀ (t : Addr) (N1 : Int → List Int) (H' : Hp), PlanAt C H' p m x rs n N1 → (∀ i j, j ∈ N1 i ↔ j ∈ N i ∨ (i ∈ E1 ∧ j ∈ F2)) → Keep (Foot m x rs) H H' →
    EndsAt K H' S t (F1 ++ if e1 then F2 else []) ((if e2 then E1 else []) ++ E2) (e1 && e2) → Q (.ref t) H'
theorem sc_in_turn : FnScope ["plan", "ends", "more", "firsts", "lasts", "empty", "later", "closing", "vacant"] ["plan", "ends", "more"] (defScope s_in_turn) := ⟨rfl, rfl, rfl, by decide +kernel, rfl, by decide +kernel, by decide +kernel⟩
theorem ok_in_turn {f : Addr} {fd : FuncData} (D : Def K mg "in_turn" s_in_turn ["plan", "ends", "more"] f fd) (T : Txt K mg C) (G_link : HasM P w K mg base C "link" 1 ["self", "places", "others"] (spLink C)) : Has P w K mg base "in_turn" 2 ["plan", "ends", "more"] (spInTurn K C) := by
  refine D.has (D.F.ok sc_in_turn (fun vs H Q E h => ?_) (fun cdv A outer s H vs Q E hr h => ?_))
  · obtain ⟨p, m, x, t1, t2, rs, n, N, S, F1, E1, F2, E2, e1, e2, rfl, _⟩ := h
    rfl
  obtain ⟨p, m, x, t1, t2, rs, n, N, S, F1, E1, F2, E2, e1, e2, rfl, h, hf, hS, ⟨fa, ea, a1, a2, a3, a4, a5⟩, ⟨fb, eb, b1, b2, b3, b4, b5⟩, bE, bF, lF, lE, q⟩ := h
  have nd := sc_in_turn.nd
  refine ⟨_, (pss_cons (ps_asg (pv 1) (pg_tup (by rfl) (pgs_cons (pg_name (i := 3) nd rfl (Or.inl rfl)) (pgs_cons (pg_name (i := 4) nd rfl (Or.inl rfl)) (pgs_cons (pg_name (i := 5) nd rfl (Or.inl rfl)) pgs_nil)))))
      (pss_cons (ps_asg (pv 2) (pg_tup (by rfl) (pgs_cons (pg_name (i := 6) nd rfl (Or.inl rfl)) (pgs_cons (pg_name (i := 7) nd rfl (Or.inl rfl)) (pgs_cons (pg_name (i := 8) nd rfl (Or.inl rfl)) pgs_nil)))))
      (pss_cons (ps_expr (pe_mth G_link (hr.mono (by omega)) T.cl (pv 0) (pa_cons (pv 4) (pa_cons (pv 6) pa_nil))))
      (pss_mid (ps_if (pt_val (pv 5)) (pss_one (ps_set (i := 3) nd rfl (Or.inl rfl) (pe_op op_cat (pv 3) (pv 6)))) pss_nil)
      (pss_mid (ps_if (pt_val (pv 8)) (pss_one (ps_set (i := 7) nd rfl (Or.inl rfl) (pe_op op_cat (pv 4) (pv 7)))) pss_nil)
      (pss_one (ps_ret (pe_tup (pa_cons (pv 3) (pa_cons (pv 7) (pa_cons (pe_and (pv 5) (pe_one (pv 8))) pa_nil))))))))))), ?_⟩
  obtain ⟨dx, ob⟩ := h.ob
  refine ⟨_, rfl, t1, _, rfl, a1, rfl, _, _, rfl, _, _, rfl, _, _, rfl, rfl, ?_⟩
  refine ⟨_, rfl, t2, _, rfl, b1, rfl, _, _, rfl, _, _, rfl, _, _, rfl, rfl, ?_⟩
  refine ⟨_, rfl, p, dx, _, rfl, ob, pf_no _ _ (by decide +kernel) (by decide +kernel), _, rfl, _, rfl, p, m, x, ea, fb, rs, n, N, E1, F2, rfl, h, a3, b2, fun z => a5 (hf _ (.inr (.inr z))), fun z => b4 (hf _ (.inr (.inr z))), bE, bF, fun N1 H1 h1 m1 k1 => ?_⟩
  have nrs : ∀ {c : Addr}, ¬ S c → ¬ c ∈ rs := fun hc z => hc (hf _ (.inr (.inr z)))
  have fresh : ∀ {H2 : Hp} {c : Addr}, Keep (Foot m x rs) H H2 → H2 c = none → ¬ S c := fun k e z => k.ex _ (hS _ z) e
  have kf : Keep (Foot m x rs) H H1 := k1.mono fun c z => .inr (.inr z)
  have tr : ∀ {H2 H3 : Hp}, Keep (Foot m x rs) H H2 → Same H2 H3 → Keep (Foot m x rs) H H3 := fun k s => k.trans (Keep.of_same (S := Foot m x rs) s) fun _ _ z => z
  -- firsts
  refine ⟨fun σ H2 => ∃ fc : Addr, σ = [some (.ref p), some (.ref t1), some (.ref t2), some (.ref fc), some (.ref ea), some (.bl e1), some (.ref fb), some (.ref eb), some (.bl e2)] ∧ Same H1 H2 ∧ H2 fc = some (.lst ((F1 ++ if e1 then F2 else []).map V.int)) ∧ ¬ S fc, ?_, ?_⟩
  · refine ⟨_, rfl, _, rfl, ite2 (fun c => ?_) (fun c => ?_)⟩
    · refine ⟨_, rfl, _, rfl, fa, fb, _, _, rfl, rfl, k1.kp _ _ a2 (nrs a4), k1.kp _ _ b2 (nrs b4), fits (by simp only [List.length_map]; omega), fun o no => ?_⟩
      refine ⟨o, rfl, same_new no, by rw [upd_same, if_pos c, List.map_append], fresh kf no⟩
    · exact ⟨fa, rfl, Same.refl H1, by rw [if_neg c, List.append_nil]; exact k1.kp _ _ a2 (nrs a4), a4⟩
  rintro σ H2 ⟨fc, rfl, s2, ef, nf⟩
  -- closing
  refine ⟨fun σ H3 => ∃ ec : Addr, σ = [some (.ref p), some (.ref t1), some (.ref t2), some (.ref fc), some (.ref ea), some (.bl e1), some (.ref fb), some (.ref ec), some (.bl e2)] ∧ Same H2 H3 ∧ H3 ec = some (.lst (((if e2 then E1 else []) ++ E2).map V.int)) ∧ ¬ S ec, ?_, ?_⟩
  · refine ⟨_, rfl, _, rfl, ite2 (fun c => ?_) (fun c => ?_)⟩
    · refine ⟨_, rfl, _, rfl, ea, eb, _, _, rfl, rfl, s2 _ _ (k1.kp _ _ a3 (nrs a5)), s2 _ _ (k1.kp _ _ b3 (nrs b5)), fits (by simp only [List.length_map]; omega), fun o no => ?_⟩
      refine ⟨o, rfl, same_new no, by rw [upd_same, if_pos c, List.map_append], fresh (tr kf s2) no⟩
    · exact ⟨eb, rfl, Same.refl H2, by rw [if_neg c, List.nil_append]; exact s2 _ _ (k1.kp _ _ b3 (nrs b5)), b5⟩
  rintro σ H3 ⟨ec, rfl, s3, ee, ne⟩
  have last : ∀ b : Bool, b = (e1 && e2) → ([V.ref fc, V.ref ec, V.bl b].length ≤ sizeLine ∧ ∀ o, H3 o = none → Q (.ref o) (upd H3 o (.tup [V.ref fc, V.ref ec, V.bl b]))) := by
    rintro b rfl
    refine ⟨by show 3 ≤ sizeLine; decide, fun o no => ?_⟩
    have s4 := same_new (o := .tup [V.ref fc, V.ref ec, V.bl (e1 && e2)]) no
    have sm := (s2.trans s3).trans s4
    exact q o N1 _ (h1.same sm) m1 (tr kf sm) ⟨fc, ec, SqT.of upd_same, s4 _ _ (s3 _ _ ef), s4 _ _ ee, nf, ne⟩
  refine ⟨_, rfl, _, rfl, _, rfl, e1, rfl, ?_⟩
  cases e1 with
  | true => exact ⟨_, rfl, last e2 rfl⟩
  | false => exact last false rfl
end
end K12

/-! shapes laid: laid_row, laid_either, laid_many -/
namespace K12
open PySem L2
/-- what is not to be touched: all that stood, the new rows -/
def Out (H : Hp) (rs2 : List Addr) (b : Addr) : Prop := H b ≠ none ∨ b ∈ rs2
/-- k places more, with the rows rs2; M: what can stand behind what, more -/
structure LaidTo (C : Addr) (H H' : Hp) (p m x : Addr) (rs rs2 : List Addr) (n k : Nat) (N N1 : Int → List Int) (M : Int → Int → Prop) : Prop where
  pl : PlanAt C H' p m x (rs ++ rs2) (n + k) N1
  new : ∀ r ∈ rs2, H r = none
  kp : Keep (Foot m x rs) H H'
  mn : ∀ i j, j ∈ N1 i ↔ j ∈ N i ∨ M i j
section
variable {K : PySem.W.Frag} {C : Addr} {H H1 H2 : Hp} {p m x t : Addr} {rs rs2 rs3 : List Addr} {n k k2 : Nat} {N N1 N2 : Int → List Int} {M M2 : Int → Int → Prop} {F E : List Int} {e : Bool}
theorem LaidTo.refl (h : PlanAt C H p m x rs n N) : LaidTo C H H p m x rs [] n 0 N N (fun _ _ => False) :=
  ⟨by rw [List.append_nil]; exact h, (fun _ z => nomatch z), Keep.refl H, fun i j => ⟨.inl, fun z => z.elim id fun z => z.elim⟩⟩
theorem LaidTo.trans (a : LaidTo C H H1 p m x rs rs2 n k N N1 M) (b : LaidTo C H1 H2 p m x (rs ++ rs2) rs3 (n + k) k2 N1 N2 M2) : LaidTo C H H2 p m x rs (rs2 ++ rs3) n (k + k2) N N2 (fun i j => M i j ∨ M2 i j) := by
  refine ⟨?_, fun r hr => ?_, a.kp.trans b.kp fun c hc z => ?_, fun i j => ?_⟩
  · have q := b.pl
    rw [List.append_assoc, Nat.add_assoc] at q
    exact q
  · rcases List.mem_append.mp hr with z | z
    · exact a.new r z
    · cases q : H r with
      | none => rfl
      | some o => exact absurd (b.new r z) (a.kp.ex r (some_ne q))
  · rcases z with z | z | z
    · exact .inl z
    · exact .inr (.inl z)
    · rcases List.mem_append.mp z with z | z
      · exact .inr (.inr z)
      · exact absurd (a.new c z) hc
  · rw [b.mn, a.mn, or_assoc]
/-- links between places that stand already -/
theorem LaidTo.link {X : Int → Int → Prop} (a : LaidTo C H H1 p m x rs rs2 n k N N1 M) (h : PlanAt C H2 p m x (rs ++ rs2) (n + k) N2) (kp : Keep (Foot m x (rs ++ rs2)) H1 H2) (mn : ∀ i j, j ∈ N2 i ↔ j ∈ N1 i ∨ X i j) :
    LaidTo C H H2 p m x rs rs2 n k N N2 (fun i j => M i j ∨ X i j) := by
  have q := a.trans (H2 := H2) (rs3 := []) (k2 := 0) (N2 := N2) (M2 := X) ⟨by rw [List.append_nil]; exact h, fun _ z => (nomatch z), kp, mn⟩
  rw [List.append_nil] at q
  exact q
theorem LaidTo.same (a : LaidTo C H H1 p m x rs rs2 n k N N1 M) (s : Same H1 H2) : LaidTo C H H2 p m x rs rs2 n k N N1 M :=
  ⟨a.pl.same s, a.new, a.kp.trans (Keep.of_same (S := Foot m x rs) s) fun _ _ z => z, a.mn⟩
/-- a list of ours stands aside of the plan -/
theorem LaidTo.aside (h : PlanAt C H p m x rs n N) {b : Addr} (nb : ¬ Out H rs2 b) : ¬ Foot m x (rs ++ rs2) b := fun z => by
  rcases z with rfl | rfl | z
  · obtain ⟨xs, q⟩ := h.foot b (.inl rfl)
    exact nb (.inl (some_ne q))
  · obtain ⟨xs, q⟩ := h.foot b (.inr (.inl rfl))
    exact nb (.inl (some_ne q))
  · rcases List.mem_append.mp z with z | z
    · obtain ⟨xs, q⟩ := h.foot b (.inr (.inr z))
      exact nb (.inl (some_ne q))
    · exact nb (.inr z)
theorem EndsAt.on (h : PlanAt C H p m x rs n N) (a : LaidTo C H H1 p m x rs rs2 n k N N1 M) (b : LaidTo C H1 H2 p m x (rs ++ rs2) rs3 (n + k) k2 N1 N2 M2) (g : EndsAt K H1 (Out H rs2) t F E e) : EndsAt K H2 (Out H (rs2 ++ rs3)) t F E e := by
  obtain ⟨fa, ea, g1, g2, g3, g4, g5⟩ := g
  have out : ∀ {c : Addr} {o : HO}, H1 c = some o → ¬ Out H rs2 c → ¬ Out H (rs2 ++ rs3) c := fun q nc z => by
    rcases z with z | z
    · exact nc (.inl z)
    · rcases List.mem_append.mp z with z | z
      · exact nc (.inr z)
      · rw [b.new _ z] at q; cases q
  exact ⟨fa, ea, b.kp.kt a.pl.lists _ _ g1, b.kp.kp _ _ g2 (LaidTo.aside h g4), b.kp.kp _ _ g3 (LaidTo.aside h g5), out g2 g4, out g3 g5⟩
theorem EndsAt.up (a : LaidTo C H H1 p m x rs rs2 n k N N1 M) (g : EndsAt K H2 (Out H1 rs3) t F E e) : EndsAt K H2 (Out H (rs2 ++ rs3)) t F E e := by
  obtain ⟨fa, ea, g1, g2, g3, g4, g5⟩ := g
  have out : ∀ {c : Addr}, ¬ Out H1 rs3 c → ¬ Out H (rs2 ++ rs3) c := fun nc z => by
    rcases z with z | z
    · exact nc (.inl (a.kp.ex _ z))
    · rcases List.mem_append.mp z with z | z
      · obtain ⟨xs, q⟩ := a.pl.foot _ (.inr (.inr (List.mem_append_right _ z)))
        exact nc (.inl (some_ne q))
      · exact nc (.inr z)
  exact ⟨fa, ea, g1, g2, g3, out g4, out g5⟩
theorem LaidTo.foot_out (h : PlanAt C H p m x rs n N) : ∀ b, Foot m x (rs ++ rs2) b → Out H rs2 b := fun b z => Classical.byContradiction fun nb => LaidTo.aside h nb z
theorem LaidTo.out_there (a : LaidTo C H H1 p m x rs rs2 n k N N1 M) : ∀ b, Out H rs2 b → H1 b ≠ none := fun b z => by
  rcases z with z | z
  · exact a.kp.ex b z
  · obtain ⟨xs, q⟩ := a.pl.foot b (.inr (.inr (List.mem_append_right _ z)))
    exact some_ne q
end
theorem sq_add {a b : Nat} : a * a + b * b ≤ (a + b) * (a + b) := by
  rw [Nat.add_mul, Nat.mul_add, Nat.mul_add]
  omega
theorem mem_if {e : Bool} {F : List Int} {x : Int} : x ∈ (if e then F else []) ↔ (e = true ∧ x ∈ F) := by
  cases e <;> simp
section
variable {P : Program} {w : World} {K : PySem.W.Frag} {mg : Str → Option Value} {base : Heap} {C : Addr}
/-- what laid and its likes promise: k places, in the language A -/
def LaidEnd (K : PySem.W.Frag) (C : Addr) (H : Hp) (Q : VK) (p m x : Addr) (rs : List Addr) (n k : Nat) (N : Int → List Int) (A : Lang) : Prop :=
  ∀ (t : Addr) (rs2 : List Addr) (N1 : Int → List Int) (M : Int → Int → Prop) (F E : List Int) (e : Bool) (H' : Hp), LaidTo C H H' p m x rs rs2 n k N N1 M → EndsAt K H' (Out H rs2) t F E e → F.length ≤ k → E.length ≤ k * k →
    Glu (n : Int) ((n + k : Nat) : Int) (fun y => y ∈ F) (fun y => y ∈ E) (e = true) M A → Q (.ref t) H'
def spLaid (K : PySem.W.Frag) (C : Addr) (d : Nat) : Sp := fun vs H Q _ => ∃ (p m x : Addr) (v : V) (s : Sh) (rs : List Addr) (n : Nat) (N : Int → List Int), vs = [.ref p, v] ∧ PlanAt C H p m x rs n N ∧ At K H s v ∧ wf s ∧ dep s ≤ d ∧ n + wt s ≤ 10 ∧
  LaidEnd K C H Q p m x rs n (wt s) N (L s n)
def spParts (K : PySem.W.Frag) (C : Addr) (d : Nat) (A : List Sh → Int → Lang) (B : List Sh → Prop) : Sp := fun vs H Q _ => ∃ (p m x q : Addr) (us : List V) (ps : List Sh) (rs : List Addr) (n : Nat) (N : Int → List Int), vs = [.ref p, .ref q] ∧ PlanAt C H p m x rs n N ∧ SqT K H q us ∧ Ats K H ps us ∧ wfs ps ∧
  (∀ s ∈ ps, dep s ≤ d) ∧ B ps ∧ n + wts ps ≤ 10 ∧ LaidEnd K C H Q p m x rs n (wts ps) N (A ps n)
def spRow (K : PySem.W.Frag) (C : Addr) (d : Nat) : Sp := spParts K C d (fun ps a => LS ps nilL a) fun _ => True
def spEither (K : PySem.W.Frag) (C : Addr) (d : Nat) : Sp := spParts K C d (fun ps a => LE ps (fun _ => False) a) fun _ => True
/-- two in turn: the pure part -/
theorem glu_turn {n k k2 : Nat} {F1 E1 F2 E2 : List Int} {e1 e2 : Bool} {M1 M2 : Int → Int → Prop} {A B : Lang} (g1 : Glu (n : Int) ((n + k : Nat) : Int) (fun y => y ∈ F1) (fun y => y ∈ E1) (e1 = true) M1 A)
    (g2 : Glu ((n + k : Nat) : Int) ((n + k + k2 : Nat) : Int) (fun y => y ∈ F2) (fun y => y ∈ E2) (e2 = true) M2 B) :
    Glu (n : Int) ((n + (k + k2) : Nat) : Int) (fun y => y ∈ F1 ++ if e1 then F2 else []) (fun y => y ∈ (if e2 then E1 else []) ++ E2) ((e1 && e2) = true) (fun i j => (M1 i j ∨ M2 i j) ∨ (i ∈ E1 ∧ j ∈ F2)) (catL A B) := by
  have g := gl_seq g1 g2 (by omega) (by omega)
  rw [Nat.add_assoc] at g
  refine g.congr (fun y => ?_) (fun y => ?_) (by simp) (fun i j => or_assoc) fun _ => Iff.rfl
  · rw [List.mem_append, mem_if]
  · rw [List.mem_append, mem_if]
theorem get_snoc {α : Type} {l : List α} {i : Nat} {a : α} (h : l[i]? = some a) : l.take (i + 1) = l.take i ++ [a] := by
  rw [List.take_add_one, h]; rfl
theorem wts_take {ps : List Sh} {i : Nat} {s : Sh} (h : ps[i]? = some s) : wts (ps.take (i + 1)) = wts (ps.take i) + wt s := by
  rw [get_snoc h, wts_append]; simp [wts]
theorem wts_le : ∀ (ps : List Sh) (i : Nat), wts (ps.take i) ≤ wts ps
  | [], i => by simp
  | p :: ps, 0 => by simp [wts]
  | p :: ps, i + 1 => by
    have := wts_le ps i
    simp only [List.take_succ_cons, wts]
    omega
theorem sc_laid_row : FnScope ["plan", "parts", "ends", "part"] ["plan", "parts"] (defScope s_laid_row) := ⟨rfl, rfl, rfl, by decide +kernel, rfl, by decide +kernel, by decide +kernel⟩
set_option maxHeartbeats 1000000 in
theorem ok_laid_row {f : Addr} {fd : FuncData} {d k0 : Nat} (D : Def K mg "laid_row" s_laid_row ["plan", "parts"] f fd) (i0 : 2 ≤ k0) (G_in_turn : Has P w K mg base "in_turn" 2 ["plan", "ends", "more"] (spInTurn K C)) (G_laid : Has P w K mg base "laid" k0 ["plan", "shape"] (spLaid K C d)) :
    Has P w K mg base "laid_row" (k0 + 1) ["plan", "parts"] (spRow K C d) := by
  refine D.has (D.F.ok sc_laid_row (fun vs H Q E h => ?_) (fun cdv A outer s0 H vs Q E hr h => ?_))
  · obtain ⟨p, m, x, q, us, ps, rs, n, N, rfl, _⟩ := h
    rfl
  obtain ⟨p, m, x, pq, us, ps, rs, n, N, rfl, h, tq, aq, wp, dp, _, hn, q⟩ := h
  have nd := sc_laid_row.nd
  refine ⟨_, (pss_cons (ps_set (i := 2) nd rfl (Or.inl rfl) (pe_tup (pa_cons (pe_lst pa_nil) (pa_cons (pe_lst pa_nil) (pa_cons pe_bl pa_nil)))))
      (pss_cons (ps_for PassesOwn.never rfl (pi_tup (pv 1)) (pg_name (i := 3) nd rfl (Or.inl rfl)) (pss_one (ps_set (i := 2) nd rfl (Or.inl rfl) (pe_fn G_in_turn (hr.mono (by omega)) rfl (pa_cons (pv 0) (pa_cons (pv 2) (pa_cons (pe_fn G_laid (hr.mono (by omega)) rfl (pa_cons (pv 0) (pa_cons (pv 3) pa_nil))) pa_nil)))))))
      (pss_one (ps_ret (pv 2))))), ?_⟩
  -- ends = ([], [], True)
  refine ⟨Nat.zero_le _, fun fa na => ⟨Nat.zero_le _, fun ea ne => ⟨by show 3 ≤ sizeLine; decide, fun t nt => ?_⟩⟩⟩
  have s1 := (same_new (o := .lst []) na).trans (same_new (o := .lst []) ne)
  have ef : upd (upd H fa (.lst [])) ea (.lst []) fa = some (.lst (([] : List Int).map V.int)) := by rw [upd_ne (ne_of_none upd_same ne), upd_same]; rfl
  have ee : upd (upd H fa (.lst [])) ea (.lst []) ea = some (.lst (([] : List Int).map V.int)) := upd_same
  have nea : H ea = none := (same_new (o := .lst []) na).free ne
  have s2 := same_new (o := .tup [V.ref fa, V.ref ea, V.bl true]) nt
  have g0 : EndsAt K (upd (upd (upd H fa (.lst [])) ea (.lst [])) t (.tup [V.ref fa, V.ref ea, V.bl true])) (Out H []) t [] [] true :=
    ⟨fa, ea, SqT.of upd_same, s2 _ _ ef, s2 _ _ ee, (fun z => z.elim (fun z => z na) (fun z => nomatch z)), (fun z => z.elim (fun z => z nea) (fun z => nomatch z))⟩
  have sm := s1.trans s2
  have l0 := (LaidTo.refl h).same sm
  generalize upd (upd (upd H fa (.lst [])) ea (.lst [])) t (.tup [V.ref fa, V.ref ea, V.bl true]) = H1 at sm g0 l0 ⊢
  have lu := aq.length
  refine ⟨_, rfl, pq, rfl, ⟨_, sm.kt _ _ tq⟩, for_tup (K := K) (a := pq) (xs := us) (fun i σ H2 => ∃ (t : Addr) (v3 : Option V) (rs2 : List Addr) (N1 : Int → List Int) (M : Int → Int → Prop) (F E : List Int) (e : Bool), σ = [some (.ref p), some (.ref pq), some (.ref t), v3] ∧
      LaidTo C H H2 p m x rs rs2 n (wts (ps.take i)) N N1 M ∧ EndsAt K H2 (Out H rs2) t F E e ∧ F.length ≤ wts (ps.take i) ∧ E.length ≤ wts (ps.take i) * wts (ps.take i) ∧
      Glu (n : Int) ((n + wts (ps.take i) : Nat) : Int) (fun y => y ∈ F) (fun y => y ∈ E) (e = true) M (LS (ps.take i) nilL n))
    ⟨t, none, [], N, _, [], [], true, rfl, by simpa [wts] using l0, g0, Nat.zero_le _, Nat.zero_le _, by
      simp only [List.take_zero, wts, Nat.add_zero, LS]
      exact (gl_nil n).congr (fun _ => by simp) (fun _ => by simp) (by simp) (fun _ _ => Iff.rfl) fun _ => Iff.rfl⟩
    (fun i σ H2 _ ⟨_, _, _, _, _, _, _, _, _, l, _⟩ => l.kp.kt h.lists _ _ tq) ?_ ?_⟩
  · rintro i y σ H2 hy ⟨t, v3, rs2, N1, M, F, E', e, rfl, l2, g2, lF, lE, G1⟩
    have a2 := Ats.mono (l2.kp.kt (K := K) h.lists) _ _ aq
    obtain ⟨s1', es1, a1⟩ := a2.get hy
    have m1 := List.mem_of_getElem? es1
    have wl := wts_take es1
    have wle := wts_le ps (i + 1)
    refine ⟨_, rfl, _, rfl, _, rfl, _, rfl, p, m, x, y, s1', rs ++ rs2, n + wts (ps.take i), N1, rfl, l2.pl, a1, wfs_mem.mp wp s1' m1, dp s1' m1, by omega, fun t2 rs3 N2 M2 F2 E2 e2 H3 l3 g3 lF2 lE2 G2 => ?_⟩
    have l23 := l2.trans l3
    have g2' := EndsAt.on h l2 l3 g2
    have g3' := EndsAt.up l2 g3
    have sq : wts (ps.take i) * wts (ps.take i) + wt s1' * wt s1' ≤ 100 := Nat.le_trans sq_add (Nat.mul_le_mul (show wts (ps.take i) + wt s1' ≤ 10 by omega) (show wts (ps.take i) + wt s1' ≤ 10 by omega))
    have sq2 := sq_add (a := wts (ps.take i)) (b := wt s1')
    refine ⟨p, m, x, t, t2, rs ++ (rs2 ++ rs3), n + (wts (ps.take i) + wt s1'), N2, Out H (rs2 ++ rs3), F, E', F2, E2, e, e2, rfl, l23.pl, LaidTo.foot_out h, l23.out_there, g2', g3', fun j hj => ?_, fun j hj => ?_, by omega, by omega, fun t3 N3 H4 h4 m4 k4 g4 => ?_⟩
    · have := G1.er j hj; omega
    · have := G2.fr j hj; omega
    · have l4 := l23.link h4 k4 m4
      have G := glu_turn G1 G2
      rw [get_snoc es1, LS_snoc, ← get_snoc es1, wl]
      have ec : (n : Int) + ((wts (ps.take i) : Nat) : Int) = ((n + wts (ps.take i) : Nat) : Int) := by omega
      rw [ec]
      refine ⟨t3, _, rs2 ++ rs3, N3, _, _, _, _, rfl, l4, g4, ?_, ?_, G⟩
      · rw [List.length_append]
        cases e
        · simp; omega
        · simp; omega
      · rw [List.length_append]
        cases e2
        · simp; omega
        · simp; omega
  · rintro σ H2 ⟨t, v3, rs2, N1, M, F, E', e, rfl, l2, g2, lF, lE, G1⟩
    rw [lu, List.take_length] at l2 lF lE G1
    exact ⟨_, rfl, q t rs2 N1 M F E' e H2 l2 g2 lF lE G1⟩
end
end K12

/-! shapes laid: laid_either, laid_many -/
namespace K12
open PySem L2
section
variable {K : PySem.W.Frag} {C : Addr} {H H1 H2 : Hp} {p m x t : Addr} {rs rs2 rs3 : List Addr} {n k k2 : Nat} {N N1 N2 : Int → List Int} {M M2 : Int → Int → Prop} {F E : List Int} {e : Bool}
/-- a list of ours is changed -/
theorem LaidTo.put (h : PlanAt C H p m x rs n N) (a : LaidTo C H H1 p m x rs rs2 n k N N1 M) {b : Addr} {o : HO} (nb : ¬ Out H rs2 b) : LaidTo C H (upd H1 b o) p m x rs rs2 n k N N1 M := by
  have put : Keep (fun c => c = b) H1 (upd H1 b o) := Keep.put (S := fun c => c = b) rfl
  have hb : H b = none := Classical.byContradiction fun z => nb (.inl z)
  refine ⟨a.pl.keep put (fun c hc z => ?_) (fun z => ?_), a.new, a.kp.trans put fun c hc z => absurd hb (by rw [← (show c = b from z)]; exact hc), a.mn⟩
  · subst z
    exact LaidTo.aside h nb hc
  · subst z
    obtain ⟨dx, q⟩ := h.ob
    rw [hb] at q; cases q
/-- .. stays ours while more is laid -/
theorem LaidTo.ours (a : LaidTo C H H1 p m x rs rs2 n k N N1 M) (b : LaidTo C H1 H2 p m x (rs ++ rs2) rs3 (n + k) k2 N1 N2 M2) {c : Addr} {o : HO} (q : H1 c = some o) (nc : ¬ Out H rs2 c) : ¬ Out H (rs2 ++ rs3) c := fun z => by
  rcases z with z | z
  · exact nc (.inl z)
  · rcases List.mem_append.mp z with z | z
    · exact nc (.inr z)
    · rw [b.new _ z] at q; cases q
end
section
variable {P : Program} {w : World} {K : PySem.W.Frag} {mg : Str → Option Value} {base : Heap} {C : Addr}
theorem sc_laid_either : FnScope ["plan", "parts", "firsts", "lasts", "empty", "part", "begins", "closes", "vacant"] ["plan", "parts"] (defScope s_laid_either) := ⟨rfl, rfl, rfl, by decide +kernel, rfl, by decide +kernel, by decide +kernel⟩
set_option maxHeartbeats 1000000 in
theorem ok_laid_either {f : Addr} {fd : FuncData} {d k0 : Nat} (D : Def K mg "laid_either" s_laid_either ["plan", "parts"] f fd) (G_laid : Has P w K mg base "laid" k0 ["plan", "shape"] (spLaid K C d)) :
    Has P w K mg base "laid_either" (k0 + 1) ["plan", "parts"] (spEither K C d) := by
  refine D.has (D.F.ok sc_laid_either (fun vs H Q E h => ?_) (fun cdv A outer s0 H vs Q E hr h => ?_))
  · obtain ⟨p, m, x, q, us, ps, rs, n, N, rfl, _⟩ := h
    rfl
  obtain ⟨p, m, x, pq, us, ps, rs, n, N, rfl, h, tq, aq, wp, dp, _, hn, q⟩ := h
  have nd := sc_laid_either.nd
  refine ⟨_, (pss_cons (ps_set (i := 2) nd rfl (Or.inl rfl) (pe_lst pa_nil))
      (pss_cons (ps_set (i := 3) nd rfl (Or.inl rfl) (pe_lst pa_nil))
      (pss_cons (ps_set (i := 4) nd rfl (Or.inl rfl) pe_bl)
      (pss_cons (ps_for PassesOwn.never rfl (pi_tup (pv 1)) (pg_name (i := 5) nd rfl (Or.inl rfl)) (pss_cons (ps_asg (pe_fn G_laid (hr.mono (by omega)) rfl (pa_cons (pv 0) (pa_cons (pv 5) pa_nil))) (pg_tup (by rfl) (pgs_cons (pg_name (i := 6) nd rfl (Or.inl rfl)) (pgs_cons (pg_name (i := 7) nd rfl (Or.inl rfl)) (pgs_cons (pg_name (i := 8) nd rfl (Or.inl rfl)) pgs_nil)))))
      (pss_cons (ps_aug (i := 2) nd rfl (Or.inl rfl) (pv 6) (ip_of iop_ext))
      (pss_cons (ps_aug (i := 3) nd rfl (Or.inl rfl) (pv 7) (ip_of iop_ext))
      (pss_one (ps_set (i := 4) nd rfl (Or.inl rfl) (pe_or (pv 4) (pe_one (pv 8)))))))))
      (pss_one (ps_ret (pe_tup (pa_cons (pv 2) (pa_cons (pv 3) (pa_cons (pv 4) pa_nil)))))))))), ?_⟩
  refine ⟨Nat.zero_le _, fun fa na => ⟨Nat.zero_le _, fun ea ne => ?_⟩⟩
  have s1 := (same_new (o := .lst []) na).trans (same_new (o := .lst []) ne)
  have ef : upd (upd H fa (.lst [])) ea (.lst []) fa = some (.lst (([] : List Int).map V.int)) := by rw [upd_ne (ne_of_none upd_same ne), upd_same]; rfl
  have ee : upd (upd H fa (.lst [])) ea (.lst []) ea = some (.lst (([] : List Int).map V.int)) := upd_same
  have nea : H ea = none := (same_new (o := .lst []) na).free ne
  have nfe : fa ≠ ea := ne_of_none upd_same ne
  have l0 := (LaidTo.refl h).same s1
  have of0 : ¬ Out H [] fa := fun z => z.elim (fun z => z na) (fun z => nomatch z)
  have oe0 : ¬ Out H [] ea := fun z => z.elim (fun z => z nea) (fun z => nomatch z)
  generalize upd (upd H fa (.lst [])) ea (.lst []) = H1 at s1 ef ee l0 ⊢
  have lu := aq.length
  refine ⟨_, rfl, pq, rfl, ⟨_, s1.kt _ _ tq⟩, for_tup (K := K) (a := pq) (xs := us) (fun i σ H2 => ∃ (v5 v6 v7 v8 : Option V) (rs2 : List Addr) (N1 : Int → List Int) (M : Int → Int → Prop) (F E : List Int) (e : Bool), σ = [some (.ref p), some (.ref pq), some (.ref fa), some (.ref ea), some (.bl e), v5, v6, v7, v8] ∧
      LaidTo C H H2 p m x rs rs2 n (wts (ps.take i)) N N1 M ∧ H2 fa = some (.lst (F.map V.int)) ∧ H2 ea = some (.lst (E.map V.int)) ∧ ¬ Out H rs2 fa ∧ ¬ Out H rs2 ea ∧ F.length ≤ wts (ps.take i) ∧ E.length ≤ wts (ps.take i) * wts (ps.take i) ∧
      Glu (n : Int) ((n + wts (ps.take i) : Nat) : Int) (fun y => y ∈ F) (fun y => y ∈ E) (e = true) M (LE (ps.take i) (fun _ => False) n))
    ⟨none, none, none, none, [], N, _, [], [], false, rfl, by simpa [wts] using l0, ef, ee, of0, oe0, Nat.zero_le _, Nat.zero_le _, by
      simp only [List.take_zero, wts, Nat.add_zero, LE]
      exact (gl_none n).congr (fun _ => by simp) (fun _ => by simp) (by simp) (fun _ _ => Iff.rfl) fun _ => Iff.rfl⟩
    (fun i σ H2 _ ⟨_, _, _, _, _, _, _, _, _, _, _, l, _⟩ => l.kp.kt h.lists _ _ tq) ?_ ?_⟩
  · rintro i y σ H2 hy ⟨v5, v6, v7, v8, rs2, N1, M, F, E', e, rfl, l2, ef2, ee2, of2, oe2, lF, lE, G1⟩
    have a2 := Ats.mono (l2.kp.kt (K := K) h.lists) _ _ aq
    obtain ⟨s1', es1, a1⟩ := a2.get hy
    have m1 := List.mem_of_getElem? es1
    have wl := wts_take es1
    have wle := wts_le ps (i + 1)
    refine ⟨_, rfl, _, rfl, p, m, x, y, s1', rs ++ rs2, n + wts (ps.take i), N1, rfl, l2.pl, a1, wfs_mem.mp wp s1' m1, dp s1' m1, by omega, fun t2 rs3 N2 M2 F2 E2 e2 H3 l3 g3 lF2 lE2 G2 => ?_⟩
    obtain ⟨fb, eb, g1, g2, g3, g4, g5⟩ := g3
    have l23 := l2.trans l3
    have ef3 := l3.kp.kp _ _ ef2 (LaidTo.aside h of2)
    have ee3 := l3.kp.kp _ _ ee2 (LaidTo.aside h oe2)
    have of3 := l2.ours l3 ef2 of2
    have oe3 := l2.ours l3 ee2 oe2
    have nbf : eb ≠ fa := fun z => g5 (.inl (by rw [z]; exact some_ne ef2))
    have sq : wts (ps.take i) * wts (ps.take i) + wt s1' * wt s1' ≤ 100 := Nat.le_trans sq_add (Nat.mul_le_mul (show wts (ps.take i) + wt s1' ≤ 10 by omega) (show wts (ps.take i) + wt s1' ≤ 10 by omega))
    have sq2 := sq_add (a := wts (ps.take i)) (b := wt s1')
    refine ⟨t2, _, rfl, g1, rfl, _, _, rfl, _, _, rfl, _, _, rfl, rfl, ?_⟩
    refine ⟨_, rfl, _, rfl, fa, fb, _, _, rfl, rfl, ef3, g2, fits (by simp only [List.length_map]; omega), ?_⟩
    have l4 := l23.put h (o := .lst (F.map V.int ++ F2.map V.int)) of3
    have ef4 : upd H3 fa (.lst (F.map V.int ++ F2.map V.int)) fa = some (.lst ((F ++ F2).map V.int)) := by rw [upd_same, List.map_append]
    have ee4 : upd H3 fa (.lst (F.map V.int ++ F2.map V.int)) ea = some (.lst (E'.map V.int)) := by rw [upd_ne (Ne.symm nfe)]; exact ee3
    have eb4 : upd H3 fa (.lst (F.map V.int ++ F2.map V.int)) eb = some (.lst (E2.map V.int)) := by rw [upd_ne nbf]; exact g3
    generalize upd H3 fa (.lst (F.map V.int ++ F2.map V.int)) = H4 at l4 ef4 ee4 eb4 ⊢
    refine ⟨_, rfl, _, rfl, ea, eb, _, _, rfl, rfl, ee4, eb4, fits (by simp only [List.length_map]; omega), ?_⟩
    have l5 := l4.put h (o := .lst (E'.map V.int ++ E2.map V.int)) oe3
    have ef5 : upd H4 ea (.lst (E'.map V.int ++ E2.map V.int)) fa = some (.lst ((F ++ F2).map V.int)) := by rw [upd_ne nfe]; exact ef4
    have ee5 : upd H4 ea (.lst (E'.map V.int ++ E2.map V.int)) ea = some (.lst ((E' ++ E2).map V.int)) := by rw [upd_same, List.map_append]
    generalize upd H4 ea (.lst (E'.map V.int ++ E2.map V.int)) = H5 at l5 ef5 ee5 ⊢
    have G := gl_alt G1 G2 (by omega) (by omega)
    rw [Nat.add_assoc] at G
    have turn : ∀ b : Bool, b = (e || e2) → ∃ (v5 v6 v7 v8 : Option V) (rs2 : List Addr) (N1 : Int → List Int) (M : Int → Int → Prop) (F E : List Int) (e' : Bool), [some (V.ref p), some (.ref pq), some (.ref fa), some (.ref ea), some (.bl b), some y, some (.ref fb), some (.ref eb), some (.bl e2)] = [some (.ref p), some (.ref pq), some (.ref fa), some (.ref ea), some (.bl e'), v5, v6, v7, v8] ∧
        LaidTo C H H5 p m x rs rs2 n (wts (ps.take (i + 1))) N N1 M ∧ H5 fa = some (.lst (F.map V.int)) ∧ H5 ea = some (.lst (E.map V.int)) ∧ ¬ Out H rs2 fa ∧ ¬ Out H rs2 ea ∧ F.length ≤ wts (ps.take (i + 1)) ∧ E.length ≤ wts (ps.take (i + 1)) * wts (ps.take (i + 1)) ∧
        Glu (n : Int) ((n + wts (ps.take (i + 1)) : Nat) : Int) (fun y => y ∈ F) (fun y => y ∈ E) (e' = true) M (LE (ps.take (i + 1)) (fun _ => False) n) := by
      rintro b rfl
      rw [get_snoc es1, LE_snoc, ← get_snoc es1, wl]
      have ec : (n : Int) + ((wts (ps.take i) : Nat) : Int) = ((n + wts (ps.take i) : Nat) : Int) := by omega
      rw [ec]
      refine ⟨_, _, _, _, rs2 ++ rs3, N2, _, F ++ F2, E' ++ E2, _, rfl, l5, ef5, ee5, of3, oe3, by rw [List.length_append]; omega, by rw [List.length_append]; omega, ?_⟩
      exact G.congr (fun _ => List.mem_append) (fun _ => List.mem_append) (by simp) (fun _ _ => Iff.rfl) fun _ => Iff.rfl
    refine ⟨_, rfl, e, rfl, ?_⟩
    cases e with
    | true => exact turn true rfl
    | false => exact ⟨_, rfl, turn e2 rfl⟩
  · rintro σ H2 ⟨v5, v6, v7, v8, rs2, N1, M, F, E', e, rfl, l2, ef2, ee2, of2, oe2, lF, lE, G1⟩
    rw [lu, List.take_length] at l2 lF lE G1
    refine ⟨_, rfl, _, rfl, _, rfl, by show 3 ≤ sizeLine; decide, fun t nt => ?_⟩
    have s3 := same_new (o := .tup [V.ref fa, V.ref ea, V.bl e]) nt
    exact q t rs2 N1 M F E' e _ (l2.same s3) ⟨fa, ea, SqT.of upd_same, s3 _ _ ef2, s3 _ _ ee2, of2, oe2⟩ lF lE G1
def spMany (K : PySem.W.Frag) (C : Addr) (d : Nat) : Sp := fun vs H Q _ => ∃ (p m x : Addr) (v : V) (s : Sh) (rs : List Addr) (n : Nat) (N : Int → List Int), vs = [.ref p, v] ∧ PlanAt C H p m x rs n N ∧ At K H s v ∧ wf s ∧ dep s ≤ d ∧ n + wt s ≤ 10 ∧
  LaidEnd K C H Q p m x rs n (wt s) N (Star (L s n))
theorem sc_laid_many : FnScope ["plan", "part", "firsts", "lasts", "empty"] ["plan", "part"] (defScope s_laid_many) := ⟨rfl, rfl, rfl, by decide +kernel, rfl, by decide +kernel, by decide +kernel⟩
theorem ok_laid_many {f : Addr} {fd : FuncData} {d k0 : Nat} (D : Def K mg "laid_many" s_laid_many ["plan", "part"] f fd) (T : Txt K mg C) (i0 : 1 ≤ k0) (G_link : HasM P w K mg base C "link" 1 ["self", "places", "others"] (spLink C)) (G_laid : Has P w K mg base "laid" k0 ["plan", "shape"] (spLaid K C d)) :
    Has P w K mg base "laid_many" (k0 + 1) ["plan", "part"] (spMany K C d) := by
  refine D.has (D.F.ok sc_laid_many (fun vs H Q E h => ?_) (fun cdv A outer s0 H vs Q E hr h => ?_))
  · obtain ⟨p, m, x, v, s, rs, n, N, rfl, _⟩ := h
    rfl
  obtain ⟨p, m, x, v, s, rs, n, N, rfl, h, a, w1, dp, hn, q⟩ := h
  have nd := sc_laid_many.nd
  refine ⟨_, (pss_cons (ps_asg (pe_fn G_laid (hr.mono (by omega)) rfl (pa_cons (pv 0) (pa_cons (pv 1) pa_nil))) (pg_tup (by rfl) (pgs_cons (pg_name (i := 2) nd rfl (Or.inl rfl)) (pgs_cons (pg_name (i := 3) nd rfl (Or.inl rfl)) (pgs_cons (pg_name (i := 4) nd rfl (Or.inl rfl)) pgs_nil)))))
      (pss_cons (ps_expr (pe_mth G_link (hr.mono (by omega)) T.cl (pv 0) (pa_cons (pv 3) (pa_cons (pv 2) pa_nil))))
      (pss_one (ps_ret (pe_tup (pa_cons (pv 2) (pa_cons (pv 3) (pa_cons pe_bl pa_nil)))))))), ?_⟩
  refine ⟨_, rfl, _, rfl, p, m, x, v, s, rs, n, N, rfl, h, a, w1, dp, hn, fun t rs2 N1 M F E' e H1 l1 g1 lF lE G1 => ?_⟩
  obtain ⟨fa, ea, g1, g2, g3, g4, g5⟩ := g1
  obtain ⟨dx, ob⟩ := l1.pl.ob
  refine ⟨t, _, rfl, g1, rfl, _, _, rfl, _, _, rfl, _, _, rfl, rfl, ?_⟩
  refine ⟨_, rfl, p, dx, _, rfl, ob, pf_no _ _ (by decide +kernel) (by decide +kernel), _, rfl, _, rfl, p, m, x, ea, fa, rs ++ rs2, n + wt s, N1, E', F, rfl, l1.pl, g3, g2,
    fun z => LaidTo.aside h g5 (.inr (.inr z)), fun z => LaidTo.aside h g4 (.inr (.inr z)), fun j hj => by have := G1.er j hj; omega, fun j hj => by have := G1.fr j hj; omega, fun N2 H2 h2 m2 k2 => ?_⟩
  have l2 := l1.link h2 (k2.mono fun c z => .inr (.inr z)) m2
  refine ⟨_, rfl, _, rfl, by show 3 ≤ sizeLine; decide, fun o no => ?_⟩
  have s3 := same_new (o := .tup [V.ref fa, V.ref ea, V.bl true]) no
  have k2' := k2.mono (S' := Foot m x (rs ++ rs2)) fun c z => .inr (.inr z)
  refine q o rs2 N2 _ F E' true _ (l2.same s3) ⟨fa, ea, SqT.of upd_same, s3 _ _ (k2'.kp _ _ g2 (LaidTo.aside h g4)), s3 _ _ (k2'.kp _ _ g3 (LaidTo.aside h g5)), g4, g5⟩ lF lE ?_
  exact (gl_many G1).congr (fun _ => Iff.rfl) (fun _ => Iff.rfl) (by simp) (fun _ _ => Iff.rfl) fun _ => Iff.rfl
end
end K12

/-! shapes laid: laid_times, laid -/
namespace K12
open PySem L2
/-- the courses of lo copies or more, of at most i -/
def Rps (s : Sh) (n : Int) (lo i : Nat) : Lang := fun y => ∃ c, lo ≤ c ∧ c ≤ i ∧ Rp (fun b => L s b) (wt s) n c y
/-- one copy more: the pure part -/
theorem glu_more {n k k2 : Nat} {F1 E1 Cl F2 E2 : List Int} {e1 e2 em : Bool} {M1 M2 : Int → Int → Prop} {A B A' : Lang} (g1 : Glu (n : Int) ((n + k : Nat) : Int) (fun y => y ∈ F1) (fun y => y ∈ E1) (e1 = true) M1 A)
    (gc : Glu (n : Int) ((n + k : Nat) : Int) (fun y => y ∈ F1) (fun y => y ∈ Cl) (em = true) M1 A') (g2 : Glu ((n + k : Nat) : Int) ((n + k + k2 : Nat) : Int) (fun y => y ∈ F2) (fun y => y ∈ E2) (e2 = true) M2 B) :
    Glu (n : Int) ((n + (k + k2) : Nat) : Int) (fun y => y ∈ F1 ++ if e1 then F2 else []) (fun y => y ∈ Cl) (em = true) (fun i j => (M1 i j ∨ M2 i j) ∨ (i ∈ E1 ∧ j ∈ F2)) A' := by
  have g := glu_turn g1 g2
  refine gl_wider gc (by omega) (fun y => ?_) (fun y hy => g.fr y hy) (fun y z => ?_) (fun y z h hy => ?_) (fun y z h => g.mr y z h)
  · rw [List.mem_append, mem_if]
    constructor
    · rintro (h | h)
      · exact .inl h
      · have := g2.fr y h.2
        exact .inr ⟨.inr h, this.1⟩
    · rintro (h | h)
      · exact .inl h
      · exact h.1
  · constructor
    · rintro ((h | h) | h)
      · exact .inl h
      · have := (g2.mr y z h).2
        exact .inr ⟨.inl (.inr h), this.1⟩
      · have := g2.fr z h.2
        exact .inr ⟨.inr h, this.1⟩
    · rintro (h | h)
      · exact .inl (.inl h)
      · exact h.1
  · rcases h with (h | h) | h
    · have := (g1.mr y z h).1; omega
    · exact (g2.mr y z h).2.1
    · exact (g2.fr z h.2).1
theorem times_len {W c hi : Nat} (h : 2 * c ≤ hi * (hi + 1) * (W * W)) (h4 : hi ≤ 4) : c ≤ hi * W * (hi * W) := by
  rw [Nat.mul_mul_mul_comm]
  generalize W * W = V at h ⊢
  rcases (show hi = 0 ∨ hi = 1 ∨ hi = 2 ∨ hi = 3 ∨ hi = 4 by omega) with e | e | e | e | e <;> subst e <;> omega
theorem close_len {W c E i : Nat} (h : 2 * c ≤ i * (i + 1) * (W * W)) (hE : E ≤ (i + 1) * (W * W)) : 2 * (c + E) ≤ (i + 1) * (i + 1 + 1) * (W * W) := by
  generalize W * W = V at h hE ⊢
  have e : (i + 1) * (i + 1 + 1) * V = i * (i + 1) * V + 2 * ((i + 1) * V) := by
    rw [← Nat.mul_assoc 2, ← Nat.add_mul, ← Nat.add_mul, Nat.mul_comm (i + 1) (i + 1 + 1)]
  omega
theorem close_mono {W c i : Nat} (h : 2 * c ≤ i * (i + 1) * (W * W)) : 2 * c ≤ (i + 1) * (i + 1 + 1) * (W * W) :=
  Nat.le_trans h (Nat.mul_le_mul_right _ (Nat.mul_le_mul (by omega) (by omega)))
section
variable {P : Program} {w : World} {K : PySem.W.Frag} {mg : Str → Option Value} {base : Heap} {C : Addr}
def spTimes (K : PySem.W.Frag) (C : Addr) (d : Nat) : Sp := fun vs H Q _ => ∃ (p m x : Addr) (v : V) (s : Sh) (lo hi : Nat) (rs : List Addr) (n : Nat) (N : Int → List Int), vs = [.ref p, v, .int lo, .int hi] ∧ PlanAt C H p m x rs n N ∧ At K H s v ∧ wf s ∧ lo ≤ hi ∧ hi ≤ 4 ∧ dep s ≤ d ∧ n + hi * wt s ≤ 10 ∧
  LaidEnd K C H Q p m x rs n (hi * wt s) N (L (.times s lo hi) n)
theorem sc_laid_times : FnScope ["plan", "part", "low", "high", "ends", "closing", "empty", "count"] ["plan", "part", "low", "high"] (defScope s_laid_times) := ⟨rfl, rfl, rfl, by decide +kernel, rfl, by decide +kernel, by decide +kernel⟩
set_option maxHeartbeats 2000000 in
theorem ok_laid_times {f : Addr} {fd : FuncData} {d k0 : Nat} (D : Def K mg "laid_times" s_laid_times ["plan", "part", "low", "high"] f fd) (T : Txt K mg C) (i0 : 2 ≤ k0) (G_in_turn : Has P w K mg base "in_turn" 2 ["plan", "ends", "more"] (spInTurn K C)) (G_laid : Has P w K mg base "laid" k0 ["plan", "shape"] (spLaid K C d)) :
    Has P w K mg base "laid_times" (k0 + 1) ["plan", "part", "low", "high"] (spTimes K C d) := by
  refine D.has (D.F.ok sc_laid_times (fun vs H Q E h => ?_) (fun cdv A outer s0 H vs Q E hr h => ?_))
  · obtain ⟨p, m, x, v, s, lo, hi, rs, n, N, rfl, _⟩ := h
    rfl
  obtain ⟨p, m, x, v, s, lo, hi, rs, n, N, rfl, h, a, w1, lh, h4, dp, hn, q⟩ := h
  have nd := sc_laid_times.nd
  refine ⟨_, (pss_cons (ps_set (i := 4) nd rfl (Or.inl rfl) (pe_tup (pa_cons (pe_lst pa_nil) (pa_cons (pe_lst pa_nil) (pa_cons pe_bl pa_nil)))))
      (pss_cons (ps_set (i := 5) nd rfl (Or.inl rfl) (pe_lst pa_nil))
      (pss_cons (ps_set (i := 6) nd rfl (Or.inl rfl) (pe_cmpR op_eq (pv 2) pe_int (nomark _)))
      (pss_cons (ps_for PassesOwn.never rfl (pi_range2 (by rfl) T.m_range (pa_cons pe_int (pa_cons (pe_op op_add (pv 3) pe_int) pa_nil))) (pg_name (i := 7) nd rfl (Or.inl rfl)) (pss_cons (ps_set (i := 4) nd rfl (Or.inl rfl) (pe_fn G_in_turn (hr.mono (by omega)) rfl (pa_cons (pv 0) (pa_cons (pv 4) (pa_cons (pe_fn G_laid (hr.mono (by omega)) rfl (pa_cons (pv 0) (pa_cons (pv 1) pa_nil))) pa_nil)))))
      (pss_one (ps_if (pt_cmpR op_ge (pv 7) (pv 2) (nomark _)) (pss_cons (ps_aug (i := 5) nd rfl (Or.inl rfl) (pe_ix ix_tup (pv 4) pe_int (fun _ _ => rfl)) (ip_of iop_ext))
      (pss_one (ps_set (i := 6) nd rfl (Or.inl rfl) (pe_or (pv 6) (pe_one (pe_ix ix_tup (pv 4) pe_int (fun _ _ => rfl))))))) pss_nil))))
      (pss_one (ps_ret (pe_tup (pa_cons (pe_ix ix_tup (pv 4) pe_int (fun _ _ => rfl)) (pa_cons (pv 5) (pa_cons (pv 6) pa_nil)))))))))), ?_⟩
  refine ⟨Nat.zero_le _, fun fa na => ⟨Nat.zero_le _, fun ea ne => ⟨by show 3 ≤ sizeLine; decide, fun t nt => ?_⟩⟩⟩
  have s1 := (same_new (o := .lst []) na).trans (same_new (o := .lst []) ne)
  have ef : upd (upd H fa (.lst [])) ea (.lst []) fa = some (.lst (([] : List Int).map V.int)) := by rw [upd_ne (ne_of_none upd_same ne), upd_same]; rfl
  have ee : upd (upd H fa (.lst [])) ea (.lst []) ea = some (.lst (([] : List Int).map V.int)) := upd_same
  have nea : H ea = none := (same_new (o := .lst []) na).free ne
  have s2 := same_new (o := .tup [V.ref fa, V.ref ea, V.bl true]) nt
  have et := (SqT.of (K := K) (upd_same (H := upd (upd H fa (.lst [])) ea (.lst [])) (a := t) (o := .tup [V.ref fa, V.ref ea, V.bl true])))
  have ef2 := s2 _ _ ef
  have ee2 := s2 _ _ ee
  have sm := s1.trans s2
  generalize upd (upd (upd H fa (.lst [])) ea (.lst [])) t (.tup [V.ref fa, V.ref ea, V.bl true]) = H1 at sm et ef2 ee2 ⊢
  -- closing = []
  refine ⟨Nat.zero_le _, fun ca nc => ?_⟩
  have s3 := same_new (o := .lst []) nc
  have ec : upd H1 ca (.lst []) ca = some (.lst (([] : List Int).map V.int)) := upd_same
  have nca : H ca = none := sm.free nc
  have g0 : EndsAt K (upd H1 ca (.lst [])) (fun b => Out H [] b ∨ b = ca) t [] [] true :=
    ⟨fa, ea, s3.kt _ _ et, s3 _ _ ef2, s3 _ _ ee2, (fun z => z.elim (fun z => z.elim (fun z => z na) (fun z => nomatch z)) fun z => by rw [← z, ef2] at nc; cases nc), (fun z => z.elim (fun z => z.elim (fun z => z nea) (fun z => nomatch z)) fun z => by rw [← z, ee2] at nc; cases nc)⟩
  have l0 := (LaidTo.refl h).same (sm.trans s3)
  have oc0 : ¬ Out H [] ca := fun z => z.elim (fun z => z nca) (fun z => nomatch z)
  have sm3 := sm.trans s3
  generalize upd H1 ca (.lst []) = H2 at ec g0 l0 sm3 ⊢
  refine ⟨_, rfl, rfl, ?_⟩
  refine ⟨_, rfl, _, _, rfl, rfl, 1, (hi : Int) + 1, rfl, ⟨by omega, by omega, by omega, by omega⟩, for_range (lo := 1) (n := ((hi : Int) + 1 - 1).toNat) (fun i σ H3 => ∃ (t : Addr) (v7 : Option V) (rs2 : List Addr) (N1 : Int → List Int) (M : Int → Int → Prop) (F E Cl : List Int) (e em : Bool),
      σ = [some (.ref p), some v, some (.int lo), some (.int hi), some (.ref t), some (.ref ca), some (.bl em), v7] ∧ LaidTo C H H3 p m x rs rs2 n (i * wt s) N N1 M ∧ EndsAt K H3 (fun b => Out H rs2 b ∨ b = ca) t F E e ∧ H3 ca = some (.lst (Cl.map V.int)) ∧ ¬ Out H rs2 ca ∧
      F.length ≤ i * wt s ∧ E.length ≤ i * (wt s * wt s) ∧ 2 * Cl.length ≤ i * (i + 1) * (wt s * wt s) ∧ Glu (n : Int) ((n + i * wt s : Nat) : Int) (fun y => y ∈ F) (fun y => y ∈ E) (e = true) M (Rp (fun b => L s b) (wt s) n i) ∧
      Glu (n : Int) ((n + i * wt s : Nat) : Int) (fun y => y ∈ F) (fun y => y ∈ Cl) (em = true) M (Rps s n lo i))
    ⟨t, none, [], N, _, [], [], [], true, _, rfl, by simpa using l0, g0, ec, oc0, Nat.zero_le _, Nat.zero_le _, Nat.zero_le _, ?_, ?_⟩ ?_ ?_⟩
  · simp only [Nat.zero_mul, Nat.add_zero, Rp]
    exact (gl_nil n).congr (fun _ => by simp) (fun _ => by simp) (by simp) (fun _ _ => Iff.rfl) fun _ => Iff.rfl
  · simp only [Nat.zero_mul, Nat.add_zero]
    by_cases c : lo = 0
    · refine (gl_nil n).congr (fun _ => by simp) (fun _ => by simp) (by simp [c]) (fun _ _ => Iff.rfl) fun y => ?_
      exact ⟨(fun ⟨c', _, h2, h3⟩ => by
        obtain rfl : c' = 0 := by omega
        exact h3), fun z => ⟨0, by omega, Nat.le_refl _, z⟩⟩
    · refine (gl_none n).congr (fun _ => by simp) (fun _ => by simp) ?_ (fun _ _ => Iff.rfl) fun y => ?_
      · rw [decide_eq_true_eq]
        exact ⟨fun z => c (by have := V.int.inj z; omega), fun z => z.elim⟩
      · exact ⟨fun ⟨c', h1, h2, _⟩ => by omega, fun z => z.elim⟩
  · rintro i σ H3 hi' ⟨t, v7, rs2, N1, M, F, E', Cl, e, em, rfl, l3, g3, ec3, oc3, lF, lE, lC, G1, GC⟩
    have ih : i + 1 ≤ hi := by omega
    have a3 := At.mono (l3.kp.kt (K := K) h.lists) _ _ a
    have bw : (i + 1) * wt s ≤ hi * wt s := Nat.mul_le_mul_right _ ih
    have e1 : (i + 1) * wt s = i * wt s + wt s := Nat.succ_mul _ _
    have e2' : (i + 1) * (wt s * wt s) = i * (wt s * wt s) + wt s * wt s := Nat.succ_mul _ _
    have w10 : wt s ≤ 10 := by omega
    have sq100 : wt s * wt s ≤ 100 := Nat.mul_le_mul w10 w10
    have i4 : i * (wt s * wt s) ≤ 4 * (wt s * wt s) := Nat.mul_le_mul_right _ (by omega)
    have i20 : i * (i + 1) * (wt s * wt s) ≤ 4 * 5 * 100 := Nat.mul_le_mul (Nat.mul_le_mul (by omega) (by omega)) sq100
    refine ⟨_, rfl, _, rfl, _, rfl, _, rfl, p, m, x, v, s, rs ++ rs2, n + i * wt s, N1, rfl, l3.pl, a3, w1, dp, by omega, fun t2 rs3 N2 M2 F2 E2 e2 H4 l4 g4 lF2 lE2 G2 => ?_⟩
    have l34 := l3.trans l4
    have ec4 := l4.kp.kp _ _ ec3 (LaidTo.aside h oc3)
    have oc4 := l3.ours l4 ec3 oc3
    -- the ends ahead, at the new state
    have g3' : EndsAt K H4 (fun b => Out H (rs2 ++ rs3) b ∨ b = ca) t F E' e := by
      obtain ⟨fa, ea, q1, q2, q3, q4, q5⟩ := g3
      obtain ⟨fa', ea', r1, r2, r3, r4, r5⟩ := EndsAt.on h l3 l4 ⟨fa, ea, q1, q2, q3, fun z => q4 (.inl z), fun z => q5 (.inl z)⟩
      have o1 := l3.ours l4 q2 fun z => q4 (.inl z)
      have o2 := l3.ours l4 q3 fun z => q5 (.inl z)
      exact ⟨fa, ea, l4.kp.kt l3.pl.lists _ _ q1, l4.kp.kp _ _ q2 (LaidTo.aside h fun z => q4 (.inl z)), l4.kp.kp _ _ q3 (LaidTo.aside h fun z => q5 (.inl z)), fun z => z.elim o1 fun z => q4 (.inr z), fun z => z.elim o2 fun z => q5 (.inr z)⟩
    have g4' : EndsAt K H4 (fun b => Out H (rs2 ++ rs3) b ∨ b = ca) t2 F2 E2 e2 := by
      obtain ⟨fa, ea, r1, r2, r3, r4, r5⟩ := EndsAt.up l3 g4
      obtain ⟨fa', ea', q1, q2, q3, q4, q5⟩ := g4
      have hx := EndsAt.up l3 (t := t2) ⟨fa', ea', q1, q2, q3, q4, q5⟩
      refine ⟨fa', ea', q1, q2, q3, fun z => z.elim ?_ fun z => q4 (.inl (by rw [z]; exact some_ne ec3)), fun z => z.elim ?_ fun z => q5 (.inl (by rw [z]; exact some_ne ec3))⟩
      · intro z
        rcases z with z | z
        · exact q4 (.inl (l3.kp.ex _ z))
        · rcases List.mem_append.mp z with z | z
          · obtain ⟨xs, y⟩ := l3.pl.foot _ (.inr (.inr (List.mem_append_right _ z)))
            exact q4 (.inl (some_ne y))
          · exact q4 (.inr z)
      · intro z
        rcases z with z | z
        · exact q5 (.inl (l3.kp.ex _ z))
        · rcases List.mem_append.mp z with z | z
          · obtain ⟨xs, y⟩ := l3.pl.foot _ (.inr (.inr (List.mem_append_right _ z)))
            exact q5 (.inl (some_ne y))
          · exact q5 (.inr z)
    refine ⟨p, m, x, t, t2, rs ++ (rs2 ++ rs3), n + (i * wt s + wt s), N2, fun b => Out H (rs2 ++ rs3) b ∨ b = ca, F, E', F2, E2, e, e2, rfl, l34.pl, fun b z => .inl (LaidTo.foot_out h b z), fun b z => z.elim (l34.out_there b) fun z => by rw [z]; exact some_ne ec4, g3', g4', fun j hj => ?_, fun j hj => ?_, by omega, by omega, fun t3 N3 H5 h5 m5 k5 g5 => ?_⟩
    · have := G1.er j hj; omega
    · have := G2.fr j hj; omega
    have l5 := l34.link h5 k5 m5
    have ec5 := k5.kp _ _ ec4 (LaidTo.aside h oc4)
    have G := glu_turn G1 G2
    have GW := glu_more G1 GC G2
    have eR : (n : Int) + ((i * wt s : Nat) : Int) = ((n + i * wt s : Nat) : Int) := by omega
    have eL : catL (Rp (fun b => L s b) (wt s) n i) (L s ((n + i * wt s : Nat) : Int)) = Rp (fun b => L s b) (wt s) n (i + 1) := by
      simp only [Rp, eR]
    rw [eL, ← e1] at G
    rw [← e1] at GW l5
    have lF' : (F ++ if e then F2 else []).length ≤ (i + 1) * wt s := by
      rw [List.length_append]
      cases e
      · simp; omega
      · simp; omega
    have lE' : ((if e2 then E' else []) ++ E2).length ≤ (i + 1) * (wt s * wt s) := by
      rw [List.length_append]
      cases e2
      · simp; omega
      · simp; omega
    generalize (F ++ if e then F2 else []) = F3 at G GW lF' g5
    generalize ((if e2 then E' else []) ++ E2) = E3 at G lE' g5
    generalize (e && e2) = e3 at G g5
    obtain ⟨fa, ea, q1, q2, q3, q4, q5⟩ := g5
    refine ⟨_, rfl, _, rfl, _, _, rfl, rfl, _, rfl, ite2 (fun c => ?_) (fun c => ?_)⟩
    · have lc : lo ≤ i + 1 := by
        have c := of_decide_eq_true c
        omega
      refine ⟨_, rfl, _, rfl, t3, _, _, _, rfl, rfl, q1, rfl, ca, ea, _, _, rfl, rfl, ec5, q3, fits (by simp only [List.length_map]; omega), ?_⟩
      have l6 := l5.put h (o := .lst (Cl.map V.int ++ E3.map V.int)) oc4
      have kt6 := kt_put (K := K) (o := .lst (Cl.map V.int ++ E3.map V.int)) ec5
      have nfc : fa ≠ ca := fun z => q4 (.inr z)
      have nec : ea ≠ ca := fun z => q5 (.inr z)
      have g6 : EndsAt K (upd H5 ca (.lst (Cl.map V.int ++ E3.map V.int))) (fun b => Out H (rs2 ++ rs3) b ∨ b = ca) t3 F3 E3 e3 := ⟨fa, ea, kt6 _ _ q1, by rw [upd_ne nfc]; exact q2, by rw [upd_ne nec]; exact q3, q4, q5⟩
      have ec6 : upd H5 ca (.lst (Cl.map V.int ++ E3.map V.int)) ca = some (.lst ((Cl ++ E3).map V.int)) := by rw [upd_same, List.map_append]
      have q16 := kt6 _ _ q1
      generalize upd H5 ca (.lst (Cl.map V.int ++ E3.map V.int)) = H6 at l6 g6 ec6 q16 ⊢
      have GE := gl_ends GW G
      have turn : ∀ b : Bool, b = (em || e3) → ∃ (t : Addr) (v7 : Option V) (rs2 : List Addr) (N1 : Int → List Int) (M : Int → Int → Prop) (F E Cl : List Int) (e em : Bool),
          [some (V.ref p), some v, some (.int lo), some (.int hi), some (.ref t3), some (.ref ca), some (.bl b), some (.int (1 + (i : Nat)))] = [some (.ref p), some v, some (.int lo), some (.int hi), some (.ref t), some (.ref ca), some (.bl em), v7] ∧ LaidTo C H H6 p m x rs rs2 n ((i + 1) * wt s) N N1 M ∧
          EndsAt K H6 (fun b => Out H rs2 b ∨ b = ca) t F E e ∧ H6 ca = some (.lst (Cl.map V.int)) ∧ ¬ Out H rs2 ca ∧ F.length ≤ (i + 1) * wt s ∧ E.length ≤ (i + 1) * (wt s * wt s) ∧ 2 * Cl.length ≤ (i + 1) * (i + 1 + 1) * (wt s * wt s) ∧
          Glu (n : Int) ((n + (i + 1) * wt s : Nat) : Int) (fun y => y ∈ F) (fun y => y ∈ E) (e = true) M (Rp (fun b => L s b) (wt s) n (i + 1)) ∧ Glu (n : Int) ((n + (i + 1) * wt s : Nat) : Int) (fun y => y ∈ F) (fun y => y ∈ Cl) (em = true) M (Rps s n lo (i + 1)) := by
        rintro b rfl
        refine ⟨t3, _, rs2 ++ rs3, N3, _, F3, E3, Cl ++ E3, e3, em || e3, rfl, l6, g6, ec6, oc4, lF', lE', by rw [List.length_append]; exact close_len lC lE', G, ?_⟩
        refine GE.congr (fun _ => Iff.rfl) (fun _ => List.mem_append) (by simp) (fun _ _ => Iff.rfl) fun y => ?_
        constructor
        · rintro ⟨c', h1, h2, h3⟩
          rcases (show c' ≤ i ∨ c' = i + 1 by omega) with z | rfl
          · exact .inl ⟨c', h1, z, h3⟩
          · exact .inr h3
        · rintro (⟨c', h1, h2, h3⟩ | h3)
          · exact ⟨c', h1, by omega, h3⟩
          · exact ⟨i + 1, lc, Nat.le_refl _, h3⟩
      refine ⟨_, rfl, em, rfl, ?_⟩
      cases em with
      | true => exact turn true rfl
      | false => exact ⟨_, rfl, t3, _, _, _, rfl, rfl, q16, rfl, turn e3 rfl⟩
    · have lc : ¬ lo ≤ i + 1 := fun z => c (decide_eq_true (by omega))
      refine ⟨t3, _, rs2 ++ rs3, N3, _, F3, E3, Cl, e3, em, rfl, l5, ⟨fa, ea, q1, q2, q3, q4, q5⟩, ec5, oc4, lF', lE', close_mono lC, G, ?_⟩
      refine GW.congr (fun _ => Iff.rfl) (fun _ => Iff.rfl) Iff.rfl (fun _ _ => Iff.rfl) fun y => ?_
      exact ⟨fun ⟨c', h1, h2, h3⟩ => by omega, fun ⟨c', h1, h2, h3⟩ => by omega⟩
  · rintro σ H3 ⟨t, v7, rs2, N1, M, F, E', Cl, e, em, rfl, l3, g3, ec3, oc3, lF, lE, lC, G1, GC⟩
    have eh : ((hi : Int) + 1 - 1).toNat = hi := by omega
    rw [eh] at l3 lF lE lC G1 GC
    obtain ⟨fa, ea, q1, q2, q3, q4, q5⟩ := g3
    refine ⟨_, rfl, t, _, _, _, rfl, rfl, q1, rfl, _, rfl, _, rfl, by show 3 ≤ sizeLine; decide, fun o no => ?_⟩
    have s4 := same_new (o := .tup [V.ref fa, V.ref ca, V.bl em]) no
    refine q o rs2 N1 M F Cl em _ (l3.same s4) ⟨fa, ca, SqT.of upd_same, s4 _ _ q2, s4 _ _ ec3, fun z => q4 (.inl z), oc3⟩ lF (times_len lC h4) ?_
    exact GC.congr (fun _ => Iff.rfl) (fun _ => Iff.rfl) Iff.rfl (fun _ _ => Iff.rfl) fun y => by simp only [L, Rps]
end
end K12

/-! shapes laid: laid; spread -/
namespace K12
open PySem L2
section
variable {P : Program} {w : World} {K : PySem.W.Frag} {mg : Str → Option Value} {base : Heap} {C : Addr}
theorem sc_laid : FnScope ["plan", "shape", "at"] ["plan", "shape"] (defScope s_laid) := ⟨rfl, rfl, rfl, by decide +kernel, rfl, by decide +kernel, by decide +kernel⟩
set_option maxHeartbeats 1000000 in
theorem ok_laid {f : Addr} {fd : FuncData} {d kr ke km kt k0 : Nat} (D : Def K mg "laid" s_laid ["plan", "shape"] f fd) (T : Txt K mg C) (i0 : 1 ≤ k0) (i1 : kr ≤ k0) (i2 : ke ≤ k0) (i3 : km ≤ k0) (i4 : kt ≤ k0)
    (G_lay : HasM P w K mg base C "lay" 1 ["self", "signs"] (spLay C)) (G_laid_row : Has P w K mg base "laid_row" kr ["plan", "parts"] (spRow K C d)) (G_laid_either : Has P w K mg base "laid_either" ke ["plan", "parts"] (spEither K C d))
    (G_laid_many : Has P w K mg base "laid_many" km ["plan", "part"] (spMany K C d)) (G_laid_times : Has P w K mg base "laid_times" kt ["plan", "part", "low", "high"] (spTimes K C d)) : Has P w K mg base "laid" (k0 + 1) ["plan", "shape"] (spLaid K C (d + 1)) := by
  refine D.has (D.F.ok sc_laid (fun vs H Q E h => ?_) (fun cdv A outer s0 H vs Q E hr h => ?_))
  · obtain ⟨p, m, x, v, s, rs, n, N, rfl, _⟩ := h
    rfl
  obtain ⟨p, m, x, v, s, rs, n, N, rfl, h, a, w1, dp, hn, q⟩ := h
  have nd := sc_laid.nd
  refine ⟨_, (pss_cons (ps_if (pt_cmpR op_eq (pe_ix ix_tup (pv 1) pe_int (fun _ _ => rfl)) pe_str (nomark _)) (pss_cons (ps_set (i := 2) nd rfl (Or.inl rfl) (pe_mth G_lay (hr.mono (by omega)) T.cl (pv 0) (pa_cons (pe_ix ix_tup (pv 1) pe_int (fun _ _ => rfl)) pa_nil)))
      (pss_one (ps_ret (pe_tup (pa_cons (pe_lst (pa_cons (pv 2) pa_nil)) (pa_cons (pe_lst (pa_cons (pv 2) pa_nil)) (pa_cons pe_bl pa_nil))))))) pss_nil)
      (pss_cons (ps_if (pt_cmpR op_eq (pe_ix ix_tup (pv 1) pe_int (fun _ _ => rfl)) pe_str (nomark _)) (pss_one (ps_ret (pe_fn G_laid_row (hr.mono (by omega)) rfl (pa_cons (pv 0) (pa_cons (pe_ix ix_tup (pv 1) pe_int (fun _ _ => rfl)) pa_nil))))) pss_nil)
      (pss_cons (ps_if (pt_cmpR op_eq (pe_ix ix_tup (pv 1) pe_int (fun _ _ => rfl)) pe_str (nomark _)) (pss_one (ps_ret (pe_fn G_laid_either (hr.mono (by omega)) rfl (pa_cons (pv 0) (pa_cons (pe_ix ix_tup (pv 1) pe_int (fun _ _ => rfl)) pa_nil))))) pss_nil)
      (pss_cons (ps_if (pt_cmpR op_eq (pe_ix ix_tup (pv 1) pe_int (fun _ _ => rfl)) pe_str (nomark _)) (pss_one (ps_ret (pe_fn G_laid_many (hr.mono (by omega)) rfl (pa_cons (pv 0) (pa_cons (pe_ix ix_tup (pv 1) pe_int (fun _ _ => rfl)) pa_nil))))) pss_nil)
      (pss_one (ps_ret (pe_fn G_laid_times (hr.mono (by omega)) rfl (pa_cons (pv 0) (pa_cons (pe_ix ix_tup (pv 1) pe_int (fun _ _ => rfl)) (pa_cons (pe_ix ix_tup (pv 1) pe_int (fun _ _ => rfl)) (pa_cons (pe_ix ix_tup (pv 1) pe_int (fun _ _ => rfl)) pa_nil))))))))))), ?_⟩
  obtain ⟨ps, r, rfl, t⟩ := a.tag
  refine ⟨_, rfl, ps, _, _, _, rfl, rfl, t, at0, rfl, _, rfl, if_tag (fun c => ?_) (fun c1 => ?_)⟩
  · obtain rfl := tag_one c
    unfold At at a
    obtain ⟨p', z, e, t1⟩ := a
    obtain rfl := V.ref.inj e
    simp only [wt] at hn
    obtain ⟨dx, ob⟩ := h.ob
    refine ⟨_, rfl, p, dx, _, rfl, ob, pf_no _ _ (by decide +kernel) (by decide +kernel), _, rfl, ps, _, _, _, rfl, rfl, t1, at1, p, m, x, z, rs, n, N, rfl, h, by omega, fun r' H1 pl1 nr k1 => ?_⟩
    obtain ⟨xs, er⟩ := pl1.foot r' (.inr (.inr (List.mem_append_right _ (List.mem_singleton.mpr rfl))))
    refine ⟨_, rfl, by show 1 ≤ sizeLine; decide, fun fa nfa => ⟨_, rfl, by show 1 ≤ sizeLine; decide, fun ea nea => ⟨by show 3 ≤ sizeLine; decide, fun o no => ?_⟩⟩⟩
    have s2 := same_new (o := .lst [V.int (n + 1)]) nfa
    have s3 := same_new (o := .lst [V.int (n + 1)]) nea
    have s4 := same_new (o := .tup [V.ref fa, V.ref ea, V.bl false]) no
    have nea1 : H1 ea = none := s2.free nea
    have sm := (s2.trans s3).trans s4
    have nof : ∀ {b : Addr}, H1 b = none → ¬ Out H [r'] b := fun e z => by
      rcases z with z | z
      · exact k1.ex _ z e
      · rw [List.mem_singleton.mp z, er] at e; cases e
    have l1 : LaidTo C H H1 p m x rs [r'] n 1 N N (fun _ _ => False) := ⟨pl1, fun y hy => by rw [List.mem_singleton.mp hy]; exact nr, k1, fun i j => ⟨.inl, fun z => z.elim id fun z => z.elim⟩⟩
    refine q o [r'] N _ [(n : Int) + 1] [(n : Int) + 1] false _ (l1.same sm) ⟨fa, ea, SqT.of upd_same, s4 _ _ (s3 _ _ upd_same), s4 _ _ upd_same, nof nfa, nof nea1⟩ (by show 1 ≤ 1; decide) (by show 1 ≤ 1; decide) ?_
    have g := gl_one (n : Int)
    have ec : ((n + wt .one : Nat) : Int) = (n : Int) + 1 := by simp only [wt]; omega
    rw [ec]
    exact g.congr (fun _ => List.mem_singleton) (fun _ => List.mem_singleton) (by simp) (fun _ _ => Iff.rfl) fun y => by simp only [L]
  refine ⟨_, rfl, ps, _, _, _, rfl, rfl, t, at0, rfl, _, rfl, if_tag (fun c => ?_) (fun c2 => ?_)⟩
  · obtain ⟨qs, rfl⟩ := tag_row c
    unfold At at a
    obtain ⟨p', pq, us, e, t1, t2, aq⟩ := a
    obtain rfl := V.ref.inj e
    simp only [wf] at w1
    simp only [dep] at dp
    refine ⟨_, rfl, _, rfl, ps, _, _, _, rfl, rfl, t1, at1, p, m, x, pq, us, qs, rs, n, N, rfl, h, t2, aq, w1.2, fun s' hs => by have := deps_mem hs; omega, trivial, by simpa only [wt] using hn, ?_⟩
    simp only [wt, L] at q
    exact q
  refine ⟨_, rfl, ps, _, _, _, rfl, rfl, t, at0, rfl, _, rfl, if_tag (fun c => ?_) (fun c3 => ?_)⟩
  · obtain ⟨qs, rfl⟩ := tag_either c
    unfold At at a
    obtain ⟨p', pq, us, e, t1, t2, aq⟩ := a
    obtain rfl := V.ref.inj e
    simp only [wf] at w1
    simp only [dep] at dp
    refine ⟨_, rfl, _, rfl, ps, _, _, _, rfl, rfl, t1, at1, p, m, x, pq, us, qs, rs, n, N, rfl, h, t2, aq, w1.2.2, fun s' hs => by have := deps_mem hs; omega, trivial, by simpa only [wt] using hn, ?_⟩
    simp only [wt, L] at q
    exact q
  refine ⟨_, rfl, ps, _, _, _, rfl, rfl, t, at0, rfl, _, rfl, if_tag (fun c => ?_) (fun c4 => ?_)⟩
  · obtain ⟨s', rfl⟩ := tag_many c
    unfold At at a
    obtain ⟨p', u, e, t1, a1⟩ := a
    obtain rfl := V.ref.inj e
    simp only [wf] at w1
    simp only [dep] at dp
    refine ⟨_, rfl, _, rfl, ps, _, _, _, rfl, rfl, t1, at1, p, m, x, u, s', rs, n, N, rfl, h, a1, w1, by omega, by simpa only [wt] using hn, ?_⟩
    simp only [wt, L] at q
    exact q
  cases s with
  | one => exact absurd rfl c1
  | row qs => exact absurd rfl c2
  | either qs => exact absurd rfl c3
  | many s' => exact absurd rfl c4
  | times s' lo hi =>
    unfold At at a
    obtain ⟨p', u, e, t1, a1⟩ := a
    obtain rfl := V.ref.inj e
    simp only [wf] at w1
    simp only [dep] at dp
    refine ⟨_, rfl, _, rfl, ps, _, _, _, rfl, rfl, t1, at1, _, rfl, ps, _, _, _, rfl, rfl, t1, at2, _, rfl, ps, _, _, _, rfl, rfl, t1, at3, p, m, x, u, s', lo, hi, rs, n, N, rfl, h, a1, w1.2.2, w1.1, w1.2.1, by omega, by simpa only [wt] using hn, ?_⟩
    simp only [wt] at q
    exact q
/-- going along is being in the courses: the pure part -/
theorem go_runs {n : Int} {N : Int → List Int} {es E : List Int} {M : Int → Int → Prop} (hN : ∀ x, 1 ≤ x → x ≤ n → ∀ y, y ∈ N x ↔ M x y) (he : ∀ x, 1 ≤ x → (x ∈ es ↔ x ∈ E)) (hM : ∀ x y, M x y → 1 ≤ y ∧ y ≤ n) :
    ∀ (r : List Int) (x : Int), 1 ≤ x → x ≤ n → (Go N es x r ↔ Runs (fun y => y ∈ E) M x r)
  | [], x, h0, _ => he x h0
  | y :: r, x, h0, h1 => by
    simp only [Go, Runs, hN x h0 h1]
    constructor
    · rintro ⟨a, b⟩
      have := hM x y a
      exact ⟨a, (go_runs hN he hM r y this.1 this.2).mp b⟩
    · rintro ⟨a, b⟩
      have := hM x y a
      exact ⟨a, (go_runs hN he hM r y this.1 this.2).mpr b⟩
theorem go_all {k : Nat} {N N1 : Int → List Int} {es F E : List Int} {e : Bool} {M : Int → Int → Prop} {A : Lang} (G : Glu ((0 : Nat) : Int) ((0 + k : Nat) : Int) (fun y => y ∈ F) (fun y => y ∈ E) (e = true) M A) (hN : ∀ x : Int, 0 ≤ x → x ≤ (k : Int) → ∀ y, y ∈ N x ↔ y ∈ N1 x)
    (h1 : ∀ x y, y ∈ N1 x ↔ M x y ∨ (x = 0 ∧ y ∈ F)) (he : ∀ y, y ∈ es ↔ (e = true ∧ y = 0) ∨ y ∈ E) (r : List Int) : Go N es 0 r ↔ A r := by
  rw [G.ok r]
  have run := go_runs (n := (k : Int)) (N := N) (es := es) (E := E) (M := M) (fun x x0 x1 y => by
    rw [hN x (by omega) x1, h1]
    exact ⟨fun z => z.elim id fun z => by omega, .inl⟩) (fun x x0 => by
    rw [he]
    exact ⟨fun z => z.elim (fun z => by omega) id, .inr⟩) (fun x y z => by have := (G.mr x y z).2; omega)
  cases r with
  | nil =>
    show 0 ∈ es ↔ _
    rw [he]
    constructor
    · rintro (z | z)
      · exact .inl ⟨rfl, z.1⟩
      · have := G.er 0 z; omega
    · rintro (z | z)
      · exact .inl ⟨z.2, rfl⟩
      · exact z.elim
  | cons y r =>
    show y ∈ N 0 ∧ Go N es y r ↔ _
    rw [hN 0 (Int.le_refl _) (by omega), h1]
    simp only [Locd, reduceCtorEq, false_and, false_or]
    constructor
    · rintro ⟨a | ⟨_, a⟩, b⟩
      · have := (G.mr 0 y a).1; omega
      · have := G.fr y a
        exact ⟨a, (run r y (by omega) (by omega)).mp b⟩
    · rintro ⟨a, b⟩
      have := G.fr y a
      exact ⟨.inr ⟨trivial, a⟩, (run r y (by omega) (by omega)).mpr b⟩
def rTuple (K : PySem.W.Frag) : List V → Hp → VK → Prop := fun xs H Q => ∃ p ys, xs = [.ref p] ∧ ((SqL K H p ys ∧ ∀ l, H l = none → Q (.ref l) (upd H l (.tup ys))) ∨ (SqT K H p ys ∧ Q (.ref p) H))
theorem call_tupleK {X : Cx} : CallR X (.type "tuple") (rTuple X.K) := call_tuple_of
def spSpread (K : PySem.W.Frag) : Sp := fun vs H Q _ => ∃ (v : V) (s : Sh), vs = [v] ∧ At K H s v ∧ wf s ∧ dep s ≤ 5 ∧ wt s ≤ 10 ∧ ∀ (t : Addr) (H' : Hp), Same H H' → SpreadAt K H' t s → Q (.ref t) H'
theorem sc_spread : FnScope ["shape", "plan", "firsts", "lasts", "empty", "nexts", "row"] ["shape"] (defScope s_spread) := ⟨rfl, rfl, rfl, by decide +kernel, rfl, by decide +kernel, by decide +kernel⟩
set_option maxHeartbeats 2000000 in
theorem ok_spread {f : Addr} {fd : FuncData} {kw kl k0 : Nat} (D : Def K mg "spread" s_spread ["shape"] f fd) (T : Txt K mg C) (i0 : 2 ≤ k0) (i1 : kw ≤ k0) (i2 : kl ≤ k0) (G_weight : Has P w K mg base "weight" kw ["shape"] (spWeight K 5)) (G_init : HasC P w K mg base C "Plan" 1 ["self"] (spInit C))
    (G_link : HasM P w K mg base C "link" 1 ["self", "places", "others"] (spLink C)) (G_laid : Has P w K mg base "laid" kl ["plan", "shape"] (spLaid K C 5)) : Has P w K mg base "spread" (k0 + 1) ["shape"] (spSpread K) := by
  refine D.has (D.F.ok sc_spread (fun vs H Q E h => ?_) (fun cdv A outer s0 H vs Q E hr h => ?_))
  · obtain ⟨v, s, rfl, _⟩ := h
    rfl
  obtain ⟨v, s, rfl, a, w1, dp, wl, q⟩ := h
  have nd := sc_spread.nd
  refine ⟨_, (pss_cons (ps_if (pt_cmpR op_gt (pe_fn G_weight (hr.mono (by omega)) rfl (pa_cons (pv 0) pa_nil)) (pe_num rfl T.mw) (nomark _)) (pss_one ps_never) pss_nil)
      (pss_cons (ps_set (i := 1) nd rfl (Or.inl rfl) (pe_plan G_init (hr.mono (by omega)) rfl))
      (pss_cons (ps_asg (pe_fn G_laid (hr.mono (by omega)) rfl (pa_cons (pv 1) (pa_cons (pv 0) pa_nil))) (pg_tup (by rfl) (pgs_cons (pg_name (i := 2) nd rfl (Or.inl rfl)) (pgs_cons (pg_name (i := 3) nd rfl (Or.inl rfl)) (pgs_cons (pg_name (i := 4) nd rfl (Or.inl rfl)) pgs_nil)))))
      (pss_cons (ps_expr (pe_mth G_link (hr.mono (by omega)) T.cl (pv 1) (pa_cons (pe_lst (pa_cons pe_int pa_nil)) (pa_cons (pv 2) pa_nil))))
      (pss_mid (ps_if (pt_val (pv 4)) (pss_one (ps_set (i := 3) nd rfl (Or.inl rfl) (pe_op op_cat (pe_lst (pa_cons pe_int pa_nil)) (pv 3)))) pss_nil)
      (pss_cons (ps_set (i := 5) nd rfl (Or.inl rfl) (pe_callTy (T := "tuple") call_tuple_of (by rfl) T.m_tuple (by decide +kernel) (pa_cons (pe_lc (own := [("row", 6)]) (g := gName 6) (tt := tYes) rfl nd (pi_list (pe_fld (pv 1) rfl)) (blkOk_by (own := [("row", 6)]) (N := ["shape", "plan", "firsts", "lasts", "empty", "nexts", "row"]) (sc := defScope s_spread) (by decide +kernel)) (fun _ _ _ _ _ => pg_name (i := 6) nd rfl (Or.inl rfl)) (fun _ _ _ _ _ => pts_nil) (fun _ _ _ _ _ => (pe_callTy (T := "tuple") (show CallR _ (.type "tuple") (rTuple K) from call_tupleK) (by rfl) T.m_tuple (by decide +kernel) (pa_cons (pe_callB (id := "sorted") (show CallR _ (.builtin "sorted") (rSorted K) from cr_sorted) (by rfl) T.m_sorted (by decide +kernel) (pa_cons (pv 6) pa_nil)) pa_nil)))) pa_nil)))
      (pss_one (ps_ret (pe_tup (pa_cons (pe_callTy (T := "tuple") call_tuple_of (by rfl) T.m_tuple (by decide +kernel) (pa_cons (pe_fld (pv 1) rfl) pa_nil)) (pa_cons (pv 5) (pa_cons (pe_callTy (T := "tuple") call_tuple_of (by rfl) T.m_tuple (by decide +kernel) (pa_cons (pe_sortset rfl (by rfl) T.m_sorted (by rfl) T.m_set (pv 3)) pa_nil)) pa_nil)))))))))))), ?_⟩
  refine ⟨_, rfl, v, s, rfl, a, w1, dp, fun H1 s1 => ⟨_, _, rfl, rfl, _, rfl, ite2 (fun e => ?_) (fun _ => ?_)⟩⟩
  · have e := of_decide_eq_true e
    omega
  -- plan = Plan()
  intro p dx np ndx nep
  refine ⟨p, dx, rfl, upd_same, fun m x r0 H2 pl nm nx nr kp => ⟨rfl, ?_⟩⟩
  have s2 := Same.made np ndx kp
  have s12 := s1.trans s2
  -- laid
  refine ⟨_, rfl, _, rfl, p, m, x, v, s, [r0], 0, fun _ => [], rfl, pl, At.mono s12.kt _ _ a, w1, dp, by omega, fun t1 rs2 N1 M F E' e H3 l3 g3 lF lE G => ?_⟩
  obtain ⟨fa, ea, g1, g2, g3, g4, g5⟩ := g3
  have ww : wt s * wt s ≤ 100 := Nat.mul_le_mul wl wl
  have f1 : ∀ c, Foot m x [r0] c → H1 c = none := fun c hc => by
    have up := (same_new (o := HO.own p) ndx).trans (same_new (o := HO.ins C dx []) (by rw [upd_ne (Ne.symm nep)]; exact np))
    rcases hc with rfl | rfl | hc
    · exact up.free nm
    · exact up.free nx
    · rw [List.mem_singleton.mp hc]; exact up.free nr
  have s13 : Same H1 H3 := fun b o e => l3.kp.kp b o (s2 b o e) fun z => by rw [f1 b z] at e; cases e
  refine ⟨t1, _, rfl, g1, rfl, _, _, rfl, _, _, rfl, _, _, rfl, rfl, ?_⟩
  -- plan.link([0], firsts)
  obtain ⟨dx3, ob3⟩ := l3.pl.ob
  refine ⟨_, rfl, p, dx3, _, rfl, ob3, pf_no _ _ (by decide +kernel) (by decide +kernel), by show 1 ≤ sizeLine; decide, fun zl nzl => ⟨_, rfl, ?_⟩⟩
  have sz := same_new (o := .lst [V.int 0]) nzl
  have ez : upd H3 zl (.lst [V.int 0]) zl = some (.lst (([0] : List Int).map V.int)) := upd_same
  have pl3 := l3.pl.same sz
  have nfo : ¬ fa ∈ [r0] ++ rs2 := fun z => LaidTo.aside pl g4 (.inr (.inr z))
  have nzo : ¬ zl ∈ [r0] ++ rs2 := fun z => by
    obtain ⟨xs, q⟩ := l3.pl.foot zl (.inr (.inr z))
    rw [nzl] at q; cases q
  refine ⟨p, m, x, zl, fa, [r0] ++ rs2, 0 + wt s, N1, [0], F, rfl, pl3, ez, sz _ _ g2, nzo, nfo, fun i hi => by rw [List.mem_singleton.mp hi]; omega, fun j hj => by have := G.fr j hj; omega, fun N2 H4 h4 m4 k4 => ?_⟩
  have s14 : Same H1 H4 := fun b o e => k4.kp b o (sz _ _ (s13 b o e)) fun z => by
    rcases List.mem_append.mp z with z | z
    · rw [f1 b (.inr (.inr z))] at e; cases e
    · have q := l3.new b z
      rw [s2 b o e] at q; cases q
  have ee4 := k4.kp _ _ (sz _ _ g3) fun z => LaidTo.aside pl g5 (.inr (.inr z))
  have lw := h4.len
  generalize [r0] ++ rs2 = rs at h4 lw
  -- lasts
  refine ⟨fun σ H5 => ∃ lc : Addr, σ = [some v, some (.ref p), some (.ref fa), some (.ref lc), some (.bl e), none, none] ∧ Same H4 H5 ∧ H5 lc = some (.lst (((if e = true then [0] else []) ++ E').map V.int)), ?_, ?_⟩
  · refine ⟨_, rfl, _, rfl, ite2 (fun c => ?_) (fun c => ?_)⟩
    · refine ⟨by show 1 ≤ sizeLine; decide, fun z2 nz2 => ⟨_, rfl, z2, ea, _, _, rfl, rfl, upd_same, (same_new nz2) _ _ ee4, fits (by simp only [List.length_map, List.length_singleton]; omega), fun o no => ?_⟩⟩
      exact ⟨o, rfl, (same_new nz2).trans (same_new no), by rw [upd_same, if_pos c, List.map_append]; rfl⟩
    · exact ⟨ea, rfl, Same.refl H4, by rw [if_neg c, List.nil_append]; exact ee4⟩
  rintro σ H5 ⟨lc, rfl, s5, el⟩
  have h5 := h4.same s5
  have hes : ∀ y, y ∈ (if e = true then [(0 : Int)] else []) ++ E' ↔ (e = true ∧ y = 0) ∨ y ∈ E' := fun y => by cases e <;> simp
  have les : ((if e = true then [(0 : Int)] else []) ++ E').length ≤ 101 := by
    have : wt s * wt s ≤ 100 := Nat.mul_le_mul wl wl
    cases e <;> simp <;> omega
  generalize ((if e = true then [(0 : Int)] else []) ++ E') = es at el hes les
  have s15 := s14.trans s5
  -- nexts
  obtain ⟨dx5, ob5⟩ := h5.ob
  refine ⟨_, rfl, p, C, dx5, _, _, rfl, ob5, T.cl, T.nN, pf_nexts _ _, x, rfl, ⟨_, SqL.of h5.nx⟩, fun Dl nD => lc_list (K := K) (a := x) (xs := rs.map V.ref)
    (fun i H6 => Same H5 H6 ∧ ∃ zs : List (Addr × List Int), zs.length = i ∧ H6 Dl = some (.lst (zs.map fun z => V.ref z.1)) ∧ ∀ (j : Nat) z, zs[j]? = some z → H6 z.1 = some (.tup (z.2.map V.int)) ∧ z.2.Perm (N2 j))
    ⟨same_new nD, [], rfl, upd_same, fun j z e => by simp at e⟩ (fun i H6 _ h => SqL.of (h.1 _ _ h5.nx)) ?_ ?_⟩
  · rintro i u H6 hu ⟨s6, zs, lz, eD, hz⟩
    rw [List.getElem?_map] at hu
    obtain ⟨r, hr', rfl⟩ := Option.map_eq_some_iff.mp hu
    have er := s6 _ _ (h5.row i r hr')
    have fw := h5.few i
    refine ⟨rfl, ?_⟩
    refine ⟨_, rfl, r, _, rfl, SqL.of er, by omega, fun ns' q0 pm _ nq => ⟨q0, _, rfl, .inl ⟨SqL.of upd_same, fun l nl => ?_⟩⟩⟩
    have s7 := (same_new (o := .lst (ns'.map V.int)) nq).trans (same_new (o := .tup (ns'.map V.int)) nl)
    have eD7 := s7 _ _ eD
    have n0 : H6 l = none := (same_new (o := .lst (ns'.map V.int)) nq).free nl
    have lt : i < rs.length := (List.getElem?_eq_some_iff.mp hr').1
    refine ⟨_, eD7, fits' (by rw [List.length_map]; omega), fun b o e => ?_, zs ++ [(l, ns')], by rw [List.length_append, lz]; rfl, by rw [upd_same, List.map_append]; rfl, fun j z e => ?_⟩
    · have nb : b ≠ Dl := ne_of_none e nD
      rw [upd_ne nb]
      exact s7 _ _ (s6 _ _ e)
    · by_cases c : j < zs.length
      · rw [List.getElem?_append_left c] at e
        obtain ⟨a1, a2⟩ := hz j z e
        have nb : z.1 ≠ Dl := fun q => by rw [q, eD] at a1; cases a1
        exact ⟨by rw [upd_ne nb]; exact s7 _ _ a1, a2⟩
      · have ej : j = zs.length := by
          have l1 := (List.getElem?_eq_some_iff.mp e).1
          rw [List.length_append, List.length_singleton] at l1
          omega
        subst ej
        rw [List.getElem?_append_right (Nat.le_refl _), Nat.sub_self] at e
        obtain rfl : (l, ns') = z := Option.some.inj e
        have nb : l ≠ Dl := fun q => by rw [q, eD] at n0; cases n0
        exact ⟨by rw [upd_ne nb, upd_same], by rw [lz]; exact pm⟩
  rintro H6 ⟨s6, zs, lz, eD, hz⟩
  rw [List.length_map] at lz
  refine ⟨Dl, _, rfl, .inl ⟨SqL.of eD, fun tb ntb => ?_⟩⟩
  have s7 := same_new (o := .tup (zs.map fun z => V.ref z.1)) ntb
  have etb : upd H6 tb (.tup (zs.map fun z => V.ref z.1)) tb = some (.tup (zs.map fun z => V.ref z.1)) := upd_same
  have s57 := s6.trans s7
  have hz7 : ∀ (j : Nat) z, zs[j]? = some z → upd H6 tb (.tup (zs.map fun z => V.ref z.1)) z.1 = some (.tup (z.2.map V.int)) ∧ z.2.Perm (N2 j) := fun j z e => ⟨s7 _ _ (hz j z e).1, (hz j z e).2⟩
  generalize upd H6 tb (.tup (zs.map fun z => V.ref z.1)) = H7 at etb s57 hz7 ⊢
  obtain ⟨ms, em, lm⟩ := h5.mrk
  -- return
  refine ⟨_, rfl, p, C, dx5, _, _, rfl, s57 _ _ ob5, T.cl, T.nM, pf_marks _ _, m, _, rfl, .inl ⟨SqL.of (s57 _ _ em), fun ta nta => ⟨_, rfl, ?_⟩⟩⟩
  have s8 := same_new (o := .tup ms) nta
  have eta : upd H7 ta (.tup ms) ta = some (.tup ms) := upd_same
  generalize upd H7 ta (.tup ms) = H8 at s8 eta ⊢
  refine ⟨_, rfl, lc, es, rfl, SqL.of (s8 _ _ (s57 _ _ el)), by omega, ⟨0, 11, by decide, fun y hy => ?_⟩, fun zs2 q2 H9 _ mem s9 nq2 eq2 => ⟨q2, _, rfl, .inl ⟨SqL.of eq2, fun tc ntc => ⟨by show 3 ≤ sizeLine; decide, fun t nt => ?_⟩⟩⟩⟩
  · rcases (hes y).mp hy with z | z
    · omega
    · have := G.er y z; omega
  have s10 := same_new (o := .tup (zs2.map V.int)) ntc
  have s11 := same_new (o := .tup [V.ref ta, V.ref tb, V.ref tc]) nt
  have s7e := (s8.trans s9).trans (s10.trans s11)
  have s9e := s10.trans s11
  refine q t _ ((s1.trans s15).trans (s57.trans s7e)) ⟨ta, tb, tc, ms, zs.map (·.1), fun i => if 0 ≤ i then ((zs[i.toNat]?).map (·.2)).getD [] else [], zs2, ?_⟩
  have nn : ∀ i : Int, ∀ y, y ∈ (if 0 ≤ i then ((zs[i.toNat]?).map (·.2)).getD [] else []) → y ∈ N2 i := fun i y hy => by
    by_cases c : 0 ≤ i
    · rw [if_pos c] at hy
      cases ez : zs[i.toNat]? with
      | none => rw [ez] at hy; exact absurd hy (by simp)
      | some z =>
        rw [ez] at hy
        have q := (hz7 _ z ez).2.mem_iff.mp hy
        rw [show ((i.toNat : Nat) : Int) = i by omega] at q
        exact q
    · rw [if_neg c] at hy; exact absurd hy (by simp)
  refine ⟨SqT.of upd_same, SqT.of (s9e _ _ (s9 _ _ eta)), by omega, SqT.of (by rw [List.map_map]; exact s7e _ _ etb), by rw [List.length_map]; omega, fun i r e => ?_, SqT.of (s11 _ _ upd_same), fun i y hy => ?_, fun i => ?_, fun r => ?_⟩
  · rw [List.getElem?_map] at e
    obtain ⟨z, ez', rfl⟩ := Option.map_eq_some_iff.mp e
    have e0 : ((i : Nat) : Int).toNat = i := by omega
    rw [if_pos (by omega), e0, ez']
    exact SqT.of (s7e _ _ (hz7 i z ez').1)
  · have := h4.inn i y (nn i y hy)
    omega
  · by_cases c : 0 ≤ i
    · rw [if_pos c]
      cases ez : zs[i.toNat]? with
      | none => simp
      | some z =>
        have q := (hz7 _ z ez).2.length_eq
        have := h4.few ((i.toNat : Nat) : Int)
        show z.2.length ≤ 1000
        omega
    · rw [if_neg c]; simp
  · refine go_all (N1 := N2) (F := F) (E := E') G (fun i i0 i1 y => ⟨nn i y, fun hy => ?_⟩) (fun i y => ?_) (fun y => by rw [mem, hes]) r
    · have lt : i.toNat < zs.length := by omega
      rw [if_pos i0, List.getElem?_eq_getElem lt]
      have q := (hz7 _ _ (List.getElem?_eq_getElem lt)).2.mem_iff (a := y)
      rw [show ((i.toNat : Nat) : Int) = i by omega] at q
      exact q.mpr hy
    · rw [m4, l3.mn, List.mem_singleton]
      constructor
      · rintro ((z | z) | z)
        · exact absurd z (by simp)
        · exact .inl z
        · exact .inr z
      · rintro (z | z)
        · exact .inl (.inr z)
        · exact .inr z
end
end K12

/-! the law -/
namespace K12
open PySem L2
/-- the rows so far, at R -/
structure RowsAt (H : Hp) (l ca R : Addr) (rs : List Addr) : Prop where
  at_ : H R = some (.lst (rs.map V.ref))
  row : ∀ r ∈ rs, ∃ ns : List Int, H r = some (.lst (ns.map V.int)) ∧ ns.length ≤ 30 ∧ r ≠ l ∧ r ≠ R
  nl : R ≠ l
  nc : R ≠ ca
structure LawAt (K : PySem.W.Frag) (H : Hp) (l ca : Addr) (c : Nat) (v : V) (s : Sh) (t R : Addr) (rs : List Addr) : Prop where
  left : LeftAt H l ca c
  sh : At K H s v
  sp : SpreadAt K H t s
  rows : RowsAt H l ca R rs
section
variable {K : PySem.W.Frag} {H H' : Hp} {l ca t R : Addr} {c c' : Nat} {v : V} {s : Sh} {rs ys : List Addr}
theorem LawAt.keep (h : LawAt K H l ca c v s t R rs) (k : Keep (fun b => b = l) H H') (hl : LeftAt H' l ca c') : LawAt K H' l ca c' v s t R rs := by
  have kt := k.kt (K := K) h.left.lists
  refine ⟨hl, At.mono kt _ _ h.sh, h.sp.mono kt, k.kp _ _ h.rows.at_ h.rows.nl, fun r hr => ?_, h.rows.nl, h.rows.nc⟩
  obtain ⟨ns, e, q1, q2, q3⟩ := h.rows.row r hr
  exact ⟨ns, k.kp _ _ e q2, q1, q2, q3⟩
theorem LawAt.same (h : LawAt K H l ca c v s t R rs) (k : Same H H') : LawAt K H' l ca c v s t R rs := h.keep (Keep.of_same k) (h.left.same k)
theorem LawAt.mono (h : LawAt K H l ca c v s t R rs) (le : c ≤ c') : LawAt K H l ca c' v s t R rs := ⟨h.left.mono le, h.sh, h.sp, h.rows⟩
/-- rows more -/
theorem LawAt.add (h : LawAt K H l ca c v s t R rs) (hy : ∀ r ∈ ys, ∃ ns : List Int, H r = some (.lst (ns.map V.int)) ∧ ns.length ≤ 30 ∧ r ≠ l ∧ r ≠ R) : LawAt K (upd H R (.lst (rs.map V.ref ++ ys.map V.ref))) l ca c v s t R (rs ++ ys) := by
  have put : Keep (fun b => b = R) H (upd H R (.lst (rs.map V.ref ++ ys.map V.ref))) := Keep.put (S := fun b => b = R) rfl
  have kt := put.kt (K := K) fun b e => .inr ⟨rs.map V.ref, by rw [show b = R from e]; exact h.rows.at_⟩
  refine ⟨h.left.keep put (fun z => h.rows.nl (Eq.symm z)) fun z => h.rows.nc (Eq.symm z), At.mono kt _ _ h.sh, h.sp.mono kt, by rw [upd_same, List.map_append], fun r hr => ?_, h.rows.nl, h.rows.nc⟩
  have q : ∃ ns : List Int, H r = some (.lst (ns.map V.int)) ∧ ns.length ≤ 30 ∧ r ≠ l ∧ r ≠ R := by
    rcases List.mem_append.mp hr with z | z
    · exact h.rows.row r z
    · exact hy r z
  obtain ⟨ns, e, q1, q2, q3⟩ := q
  exact ⟨ns, by rw [upd_ne q3]; exact e, q1, q2, q3⟩
theorem cut_ten (ns : List Int) : ∃ ms : List Int, cutV (ns.map V.int) none (some 10) = ms.map V.int ∧ ms.length ≤ 10 := by
  refine ⟨(ns.drop (HT.sIx ns.length 0 none)).take (HT.sIx ns.length ns.length (some 10) - HT.sIx ns.length 0 none), ?_, ?_⟩
  · unfold cutV
    rw [List.length_map, ← List.map_drop, ← List.map_take]
  · have e : HT.sIx ns.length ns.length (some 10) ≤ 10 := by
      show (if (10 : Int) < 0 then ((10 : Int) + (ns.length : Int)).toNat else min (10 : Int).toNat ns.length) ≤ 10
      rw [if_neg (by decide)]
      exact Nat.min_le_left _ _
    rw [List.length_take, List.length_drop]; omega
end
section
variable {P : Program} {w : World} {K : PySem.W.Frag} {mg : Str → Option Value} {base : Heap} {C : Addr}
def spLaw (K : PySem.W.Frag) : Sp := fun vs H Q _ => ∃ (a : Addr) (ns : List Int), vs = [.ref a] ∧ SqL K H a (ns.map V.int) ∧ ns.length ≤ 63 ∧ ∀ H' : Hp, Q (.bl true) H'
theorem sc_law : FnScope ["_law_script", "_law_left", "_law_shape_here", "_law_many", "_law_told", "_law_rows", "_law_k", "_law_row", "_law_course_here", "_law_place"] ["_law_script"] (defScope s_law) := ⟨rfl, rfl, rfl, by decide +kernel, rfl, by decide +kernel, by decide +kernel⟩
set_option maxHeartbeats 2000000 in
theorem ok_law {f : Addr} {fd : FuncData} {kh kw kp kc ko k0 : Nat} (D : Def K mg "law" s_law ["_law_script"] f fd) (T : Txt K mg C) (i0 : 2 ≤ k0) (i1 : kh ≤ k0) (i2 : kw ≤ k0) (i3 : kp ≤ k0) (i4 : kc ≤ k0) (i5 : ko ≤ k0)
    (G_law_source : Has P w K mg base "_law_source" 1 ["_law_script"] (spSource K)) (G_law_tongue : Has P w K mg base "_law_tongue" 2 ["_law_left"] (spTongue K)) (G_law_draw : Has P w K mg base "_law_draw" 1 ["_law_left", "_law_many"] (spDraw K))
    (G_law_shape : Has P w K mg base "_law_shape" kh ["_law_left", "_law_tongue_here", "_law_deep", "_law_purse", "_law_room"] (spShape K 5)) (G_law_weight : Has P w K mg base "_law_weight" kw ["_law_shape_here"] (spWeight K 5)) (G_spread : Has P w K mg base "spread" kp ["shape"] (spSpread K))
    (G_law_course : Has P w K mg base "_law_course" kc ["_law_left", "_law_shape_here", "_law_at"] (spCourse K 5)) (G_law_gone : Has P w K mg base "_law_gone" 2 ["_law_left", "_law_told"] (spGone K)) (G_law_bent : Has P w K mg base "_law_bent" 2 ["_law_left", "_law_row", "_law_many"] (spBent K))
    (G_law_along : Has P w K mg base "_law_along" 1 ["_law_told", "_law_row"] (spAlong K)) (G_law_comes : Has P w K mg base "_law_comes" ko ["_law_shape_here", "_law_at", "_law_row", "_law_k"] (spComes K 5)) : FnOk P w K mg base CX0 (k0 + 1) f fd ["_law_script"] (spLaw K) := by
  refine (D.F.ok sc_law (fun vs H Q E h => ?_) (fun cdv A outer s0 H vs Q E hr h => ?_))
  · obtain ⟨a, ns, rfl, _⟩ := h
    rfl
  obtain ⟨a, ns, rfl, hS, h63, q⟩ := h
  have nd := sc_law.nd
  refine ⟨_, (pss_cons (ps_set (i := 1) nd rfl (Or.inr rfl) (pe_fn G_law_source (hr.mono (by omega)) rfl (pa_cons (pv 0) pa_nil)))
      (pss_cons (ps_set (i := 2) nd rfl (Or.inl rfl) (pe_fn G_law_shape (hr.mono (by omega)) rfl (pa_cons (pv 1) (pa_cons (pe_fn G_law_tongue (hr.mono (by omega)) rfl (pa_cons (pv 1) pa_nil)) (pa_cons pe_int (pa_cons pe_int (pa_cons (pe_lst (pa_cons pe_int pa_nil)) pa_nil)))))))
      (pss_cons (ps_set (i := 3) nd rfl (Or.inr rfl) (pe_fn G_law_weight (hr.mono (by omega)) rfl (pa_cons (pv 2) pa_nil)))
      (pss_cons (ps_set (i := 4) nd rfl (Or.inl rfl) (pe_fn G_spread (hr.mono (by omega)) rfl (pa_cons (pv 2) pa_nil)))
      (pss_cons (ps_if (pt_wk (PW.pt (pw_or (pt_cmpR op_ne (pe_callB call_len_seq (by rfl) T.m_len (by decide +kernel) (pa_cons (pe_ix ix_tup (pv 4) pe_int (fun _ _ => rfl)) pa_nil)) (pe_op op_add pe_int (pv 3)) (nomark _)) (pw_or1 (pt_cmpR op_ne (pe_callB call_len_seq (by rfl) T.m_len (by decide +kernel) (pa_cons (pe_ix ix_tup (pv 4) pe_int (fun _ _ => rfl)) pa_nil)) (pe_op op_add pe_int (pv 3)) (nomark _)))))) (pss_one (ps_ret pe_bl)) pss_nil)
      (pss_cons (ps_set (i := 5) nd rfl (Or.inl rfl) (pe_lst (pa_cons (pe_lst pa_nil) pa_nil)))
      (pss_cons (ps_for PassesOwn.never rfl (pi_range1 (by rfl) T.m_range (pa_cons pe_int pa_nil)) (pg_name (i := 6) nd rfl (Or.inl rfl)) (pss_cons (ps_set (i := 8) nd rfl (Or.inl rfl) (pe_slice sl_list (pe_fn G_law_course (hr.mono (by omega)) rfl (pa_cons (pv 1) (pa_cons (pv 2) (pa_cons pe_int pa_nil)))) po_none (po_some pe_int)))
      (pss_cons (ps_aug (i := 5) nd rfl (Or.inl rfl) (pe_lst (pa_cons (pv 8) (pa_cons (pe_fn G_law_gone (hr.mono (by omega)) rfl (pa_cons (pv 1) (pa_cons (pv 4) pa_nil))) pa_nil))) (ip_of iop_ext))
      (pss_one (ps_if (pt_cmpR op_gt (pv 3) pe_int (nomark _)) (pss_one (ps_aug (i := 5) nd rfl (Or.inl rfl) (pe_lst (pa_cons (pe_fn G_law_bent (hr.mono (by omega)) rfl (pa_cons (pv 1) (pa_cons (pv 8) (pa_cons (pv 3) pa_nil)))) (pa_cons (pe_lc (own := [("_law_place", 9)]) (g := gName 9) (tt := tYes) rfl nd (pi_range1 (by rfl) T.m_range (pa_cons (pe_op op_add (pv 6) pe_int) pa_nil)) (blkOk_by (own := [("_law_place", 9)]) (N := ["_law_script", "_law_left", "_law_shape_here", "_law_many", "_law_told", "_law_rows", "_law_k", "_law_row", "_law_course_here", "_law_place"]) (sc := defScope s_law) (by decide +kernel)) (fun _ _ _ _ _ => pg_name (i := 9) nd rfl (Or.inl rfl)) (fun _ _ _ _ _ => pts_nil) (fun _ _ _ _ _ => (pe_op op_add pe_int (pe_fn G_law_draw (hr.mono (by omega)) rfl (pa_cons (pv 1) (pa_cons (pv 3) pa_nil)))))) pa_nil))) (ip_of iop_ext))) pss_nil)))))
      (pss_cons (ps_for PassesOwn.never rfl (pi_list (pv 5)) (pg_name (i := 7) nd rfl (Or.inl rfl)) (pss_one (ps_if (pt_cmpR op_ne (pe_fn G_law_along (hr.mono (by omega)) rfl (pa_cons (pv 4) (pa_cons (pv 7) pa_nil))) (pe_cmpR op_in_seq (pe_callB call_len_seq (by rfl) T.m_len (by decide +kernel) (pa_cons (pv 7) pa_nil)) (pe_fn G_law_comes (hr.mono (by omega)) rfl (pa_cons (pv 2) (pa_cons pe_int (pa_cons (pv 7) (pa_cons pe_int pa_nil))))) rfl) (nomark _)) (pss_one (ps_ret pe_bl)) pss_nil)))
      (pss_one (ps_ret pe_bl)))))))))), ?_⟩
  have dr : draws 5 = 186620 := by decide +kernel
  have cd : cdraws 5 = 37324 := by decide +kernel
  have mo : most = 1000000000 := rfl
  have cl : clen 5 ≤ 10000 := by decide +kernel
  -- left, shape
  refine ⟨_, rfl, a, ns, rfl, hS, h63, fun l ca H1 s1 _ _ l1 => ?_⟩
  refine ⟨_, rfl, _, rfl, l, ca, 0, rfl, l1, by decide, fun z H2 z1 z6 k2 l2 => ?_⟩
  refine ⟨by show 1 ≤ sizeLine; decide, fun rm nrm => ?_⟩
  have l3 := l2.same (same_new (o := .lst [V.int 24]) nrm)
  obtain ⟨el, eca, ncl⟩ := l2.there
  refine ⟨l, ca, rm, z, 5, 10, 24, 8, rfl, z1, z6, l3, upd_same, fun y => el (by rw [← y]; exact nrm), fun y => eca (by rw [← y]; exact nrm), by decide, by decide, by decide, by rw [dr]; decide, fun v s k1 H4 a4 w1 dp wp k4 l4 er => ?_⟩
  have dp : dep s ≤ 5 := by omega
  have wp : wt s ≤ 10 := by omega
  -- many, told
  refine ⟨_, rfl, v, s, rfl, a4, w1, dp, fun H5 s5 => ?_⟩
  refine ⟨_, rfl, v, s, rfl, At.mono s5.kt _ _ a4, w1, dp, wp, fun t H6 s6 sp6 => ?_⟩
  have a6 := At.mono (s5.trans s6).kt _ _ a4
  have l6 := l4.same (s5.trans s6)
  refine ⟨fun b H7 => b = false ∧ H7 = H6, ?_, ?_⟩
  · obtain ⟨ta, tb, tc, ms, rs, N, es, h⟩ := sp6
    have e1 : ((rs.map V.ref).length : Int) = 1 + (wt s : Int) := by rw [List.length_map, h.lb]; omega
    have e2 : (ms.length : Int) = 1 + (wt s : Int) := by rw [h.la]; omega
    refine ⟨_, rfl, t, _, _, _, rfl, rfl, h.t, at1, tb, _, rfl, .inr h.b, _, rfl, _, _, rfl, rfl, rfl, _, rfl, ite2 (fun e => ?_) (fun _ => ?_)⟩
    · rw [e1] at e; simp at e
    refine ⟨_, rfl, t, _, _, _, rfl, rfl, h.t, at0, ta, _, rfl, .inr h.a, _, rfl, _, _, rfl, rfl, rfl, _, rfl, ?_, rfl⟩
    rw [e2]; simp
  rintro b H7 ⟨rfl, rfl⟩
  -- rows = [[]]
  refine ⟨Nat.zero_le _, fun r0 nr0 => ⟨by show 1 ≤ sizeLine; decide, fun R nR => ?_⟩⟩
  have sR := (same_new (o := .lst []) nr0).trans (same_new (o := .lst [V.ref r0]) nR)
  obtain ⟨el6, eca6, _⟩ := l6.there
  have nl0 : r0 ≠ l := fun y => el6 (by rw [← y]; exact nr0)
  have nR6 := (same_new (o := .lst []) nr0).free nR
  have g0 : LawAt K (upd (upd H7 r0 (.lst [])) R (.lst [V.ref r0])) l ca (8 + draws 5) v s t R [r0] := by
    refine ⟨l6.same sR, At.mono sR.kt _ _ a6, sp6.mono sR.kt, upd_same, fun r hr => ⟨[], ?_, Nat.zero_le _, ?_, ?_⟩, fun y => el6 (by rw [← y]; exact nR6), fun y => eca6 (by rw [← y]; exact nR6)⟩
    · rw [List.mem_singleton.mp hr]
      exact same_new (o := .lst [V.ref r0]) nR _ _ upd_same
    · rw [List.mem_singleton.mp hr]; exact nl0
    · rw [List.mem_singleton.mp hr]; exact ne_of_none upd_same nR
  rw [dr] at g0
  generalize upd (upd H7 r0 (.lst [])) R (.lst [V.ref r0]) = H8 at g0 ⊢
  -- for k in range(2)
  refine ⟨_, rfl, by decide, by decide, for_range (n := (2 : Int).toNat) (fun i σ H9 => ∃ (x6 x7 x8 x9 : Option V) (rs : List Addr), σ = [some (.ref a), some (.ref l), some v, some (.int (wt s)), some (.ref t), some (.ref R), x6, x7, x8, x9] ∧
      LawAt K H9 l ca (200000 + 40000 * i) v s t R rs ∧ rs.length ≤ 1 + 4 * i) ⟨none, none, none, none, [r0], rfl, g0.mono (by omega), by simp⟩ ?_ ?_⟩
  · rintro i σ H9 hi ⟨x6, x7, x8, x9, rs, rfl, g, lr⟩
    have hi : i < 2 := hi
    -- course
    refine ⟨_, rfl, _, rfl, l, ca, v, s, 0, 200000 + 40000 * i, rfl, g.left, g.sh, w1, dp, cl, by omega, fun r ns1 H10 k10 l10 nr10 er10 lr10 => ⟨_, rfl, r, _, rfl, SqL.of er10, fun p np => ?_⟩⟩
    have g10 := g.keep k10 l10
    obtain ⟨ns2, e2, ln2⟩ := cut_ten ns1
    have sp := same_new (o := .lst (cutV (ns1.map V.int) none (some 10))) np
    have ep : upd H10 p (.lst (cutV (ns1.map V.int) none (some 10))) p = some (.lst (ns2.map V.int)) := by rw [upd_same, e2]
    have g11 := g10.same sp
    have npl : p ≠ l := fun y => (g10.left.there).1 (by rw [← y]; exact np)
    have npR : p ≠ R := Ne.symm (ne_of_none g10.rows.at_ np)
    generalize upd H10 p (.lst (cutV (ns1.map V.int) none (some 10))) = H11 at ep g11 ⊢
    -- rows += [course, gone]
    refine ⟨_, rfl, _, rfl, _, rfl, _, rfl, l, ca, t, s, _, rfl, g11.left, g11.sp, by omega, fun r2 ms2 H12 k12 l12 nr12 er12 lr12 => ⟨by show 2 ≤ sizeLine; decide, fun z2 nz2 => ?_⟩⟩
    have g12 := g11.keep k12 l12
    have ep12 := k12.kp _ _ ep npl
    have s13 := same_new (o := .lst [V.ref p, V.ref r2]) nz2
    have g13 := g12.same s13
    have ep13 := s13 _ _ ep12
    have er13 := s13 _ _ er12
    have n2l : r2 ≠ l := fun y => (g11.left.there).1 (by rw [← y]; exact nr12)
    have n2R : r2 ≠ R := Ne.symm (ne_of_none g11.rows.at_ nr12)
    refine ⟨R, z2, _, _, rfl, rfl, g13.rows.at_, upd_same, fits (by rw [List.length_map]; show rs.length + 2 ≤ 10000; omega), ?_⟩
    have g14 : LawAt K (upd (upd H12 z2 (.lst [V.ref p, V.ref r2])) R (.lst (rs.map V.ref ++ [V.ref p, V.ref r2]))) l ca (200000 + 40000 * i + cdraws 5 + 30) v s t R (rs ++ [p, r2]) := g13.add (ys := [p, r2]) fun r hr => by
      rcases List.mem_cons.mp hr with rfl | hr
      · exact ⟨ns2, ep13, by omega, npl, npR⟩
      · rw [List.mem_singleton.mp hr]; exact ⟨ms2, er13, by omega, n2l, n2R⟩
    have ep14 : upd (upd H12 z2 (.lst [V.ref p, V.ref r2])) R (.lst (rs.map V.ref ++ [V.ref p, V.ref r2])) p = some (.lst (ns2.map V.int)) := by rw [upd_ne npR]; exact ep13
    generalize upd (upd H12 z2 (.lst [V.ref p, V.ref r2])) R (.lst (rs.map V.ref ++ [V.ref p, V.ref r2])) = H14 at g14 ep14 ⊢
    -- if many > 0
    refine ⟨_, rfl, _, _, rfl, rfl, _, rfl, ite2 (fun e => ?_) (fun _ => ⟨_, _, _, _, rs ++ [p, r2], rfl, g14.mono (by omega), by simp; omega⟩)⟩
    have w0 : 1 ≤ wt s := by
      have e := of_decide_eq_true e
      omega
    -- rows += [bent, drawn]
    refine ⟨_, rfl, _, rfl, _, rfl, _, rfl, l, ca, p, ns2, _, _, rfl, g14.left, ep14, npl, ln2, by omega, by omega, by omega, fun r3 ms3 H15 k15 l15 nr15 er15 lr15 => ?_⟩
    have g15 := g14.keep k15 l15
    have n3l : r3 ≠ l := fun y => (g14.left.there).1 (by rw [← y]; exact nr15)
    have n3R : r3 ≠ R := Ne.symm (ne_of_none g14.rows.at_ nr15)
    refine ⟨_, rfl, _, _, rfl, rfl, _, rfl, by omega, by omega, fun Dl nD => lc_range (n := (0 + (i : Int) + 2).toNat) (fun j H16 => Keep (fun b => b = l) H15 H16 ∧ LeftAt H16 l ca (200000 + 40000 * i + 37400 + j) ∧ ∃ zs : List Int, H16 Dl = some (.lst (zs.map V.int)) ∧ zs.length = j)
      ⟨Keep.of_same (same_new nD), (g15.left.same (same_new nD)).mono (by omega), [], upd_same, rfl⟩ ?_ ?_⟩
    · rintro j H16 hj ⟨k16, l16, zs, eD, lz⟩
      refine ⟨rfl, ?_⟩
      refine ⟨_, rfl, _, rfl, l, ca, _, _, rfl, l16, by omega, by omega, by omega, fun n H17 n0 n1 k17 l17 => ⟨_, _, rfl, rfl, ?_⟩⟩
      have nDl : Dl ≠ l := fun y => (g15.left.there).1 (by rw [← y]; exact nD)
      have nDc : Dl ≠ ca := fun y => (g15.left.there).2.1 (by rw [← y]; exact nD)
      have put : Keep (fun b => b = Dl) H17 (upd H17 Dl (.lst (zs.map V.int ++ [V.int (1 + n)]))) := Keep.put (S := fun b => b = Dl) rfl
      refine ⟨_, k17.kp _ _ eD nDl, fits' (by rw [List.length_map]; omega), ?_, ?_, zs ++ [1 + n], by rw [upd_same, List.map_append]; rfl, by rw [List.length_append, lz]; rfl⟩
      · exact (k16.trans k17 fun _ _ z => z).trans put fun b hb e => absurd nD (by rw [← e]; exact hb)
      · exact l17.keep put (Ne.symm nDl) (Ne.symm nDc)
    rintro H16 ⟨k16, l16, zs, eD, lz⟩
    have g16 := g15.keep k16 l16
    have er16 := k16.kp _ _ er15 n3l
    have nDl : Dl ≠ l := fun y => (g15.left.there).1 (by rw [← y]; exact nD)
    have nDR : Dl ≠ R := Ne.symm (ne_of_none g15.rows.at_ nD)
    refine ⟨by show 2 ≤ sizeLine; decide, fun z3 nz3 => ?_⟩
    have s17 := same_new (o := .lst [V.ref r3, V.ref Dl]) nz3
    have g17 := g16.same s17
    refine ⟨R, z3, _, _, rfl, rfl, g17.rows.at_, upd_same, fits (by rw [List.length_map, List.length_append]; show rs.length + 2 + 2 ≤ 10000; omega), ?_⟩
    have g18 := g17.add (ys := [r3, Dl]) fun r hr => by
      rcases List.mem_cons.mp hr with rfl | hr
      · exact ⟨ms3, s17 _ _ er16, by omega, n3l, n3R⟩
      · rw [List.mem_singleton.mp hr]; exact ⟨zs, s17 _ _ eD, by omega, nDl, nDR⟩
    exact ⟨_, _, _, _, rs ++ [p, r2] ++ [r3, Dl], rfl, g18.mono (by omega), by simp; omega⟩
  · rintro σ H9 ⟨x6, x7, x8, x9, rs, rfl, g, lr⟩
    refine ⟨_, rfl, R, rfl, ⟨_, SqL.of g.rows.at_⟩, for_list (K := K) (a := R) (xs := rs.map V.ref) (fun i σ H10 => ∃ x7 : Option V, σ = [some (.ref a), some (.ref l), some v, some (.int (wt s)), some (.ref t), some (.ref R), x6, x7, x8, x9] ∧ Same H9 H10)
      ⟨x7, rfl, Same.refl H9⟩ (fun i σ H10 _ ⟨_, _, z⟩ => SqL.of (z _ _ g.rows.at_)) ?_ ?_⟩
    · rintro i u σ H10 hu ⟨x7, rfl, s10⟩
      rw [List.getElem?_map] at hu
      obtain ⟨r, hr', rfl⟩ := Option.map_eq_some_iff.mp hu
      have g10 := g.same s10
      obtain ⟨ns1, er, ln1, _, _⟩ := g10.rows.row r (List.mem_of_getElem? hr')
      refine ⟨_, rfl, _, rfl, t, r, s, ns1, rfl, g10.sp, SqL.of er, fun b hb => ?_⟩
      refine ⟨_, rfl, r, _, rfl, .inl (SqL.of er), _, rfl, _, rfl, v, s, 0, 0, r, ns1, rfl, g10.sh, w1, dp, SqL.of er, by omega, by decide, by omega, fun p ms H11 s11 np ep lm mem => ?_⟩
      refine ⟨p, _, rfl, .inl (SqL.of ep), rfl, flat_ints _, rfl, _, rfl, ?_⟩
      rw [if_neg Bool.false_ne_true, inV_ints]
      have same : b = decide (((ns1.map V.int).length : Int) ∈ ms) := by
        rw [List.length_map]
        have q1 := mem (ns1.length : Int)
        rw [seg_whole] at q1
        by_cases c : (ns1.length : Int) ∈ ms
        · rw [decide_eq_true c]; exact hb.mpr (q1.mp c)
        · rw [decide_eq_false c]
          cases b with
          | false => rfl
          | true => exact absurd (q1.mpr (hb.mp rfl)) c
      rw [← same]
      refine ite2 (fun e => ?_) (fun _ => ⟨_, rfl, s10.trans s11⟩)
      simp at e
    · rintro σ H10 ⟨x7, rfl, s10⟩
      exact q _
end
end K12

/-! the chain of promises; what the top has written -/
namespace K12
open PySem L2
section
variable {P : Program} {w : World} {K : PySem.W.Frag} {mg : Str → Option Value} {base : Heap} {C : Addr}
theorem weight_all {f1 f2 : Addr} {fd1 fd2 : FuncData} (D1 : Def K mg "inner" s_inner ["shape"] f1 fd1) (D2 : Def K mg "weight" s_weight ["shape"] f2 fd2) (T : Txt K mg C) : ∀ d : Nat, Has P w K mg base "weight" (d + 1) ["shape"] (spWeight K d)
  | 0 => vac D2 fun vs H Q E h => by
    obtain ⟨v, s, _, _, _, h, _⟩ := h
    have := dep_pos s; omega
  | d + 1 => ok_weight D2 T (ok_inner D1) (weight_all D1 D2 T d)
theorem lw_all {f1 : Addr} {fd1 : FuncData} (D1 : Def K mg "_law_weight" s_law_weight ["_law_shape_here"] f1 fd1) (T : Txt K mg C) : ∀ d : Nat, Has P w K mg base "_law_weight" (d + 1) ["_law_shape_here"] (spWeight K d)
  | 0 => vac D1 fun vs H Q E h => by
    obtain ⟨v, s, _, _, _, h, _⟩ := h
    have := dep_pos s; omega
  | d + 1 => ok_law_weight D1 T (lw_all D1 T d)
theorem laid_all {f1 f2 f3 f4 f5 : Addr} {fd1 fd2 fd3 fd4 fd5 : FuncData} (D1 : Def K mg "laid" s_laid ["plan", "shape"] f1 fd1) (D2 : Def K mg "laid_row" s_laid_row ["plan", "parts"] f2 fd2) (D3 : Def K mg "laid_either" s_laid_either ["plan", "parts"] f3 fd3) (D4 : Def K mg "laid_many" s_laid_many ["plan", "part"] f4 fd4)
    (D5 : Def K mg "laid_times" s_laid_times ["plan", "part", "low", "high"] f5 fd5) (T : Txt K mg C) (G1 : Has P w K mg base "in_turn" 2 ["plan", "ends", "more"] (spInTurn K C)) (G2 : HasM P w K mg base C "lay" 1 ["self", "signs"] (spLay C)) (G3 : HasM P w K mg base C "link" 1 ["self", "places", "others"] (spLink C)) : ∀ d : Nat, Has P w K mg base "laid" (2 * d + 2) ["plan", "shape"] (spLaid K C d)
  | 0 => vac D1 fun vs H Q E h => by
    obtain ⟨p, m, x, v, s, rs, n, N, _, _, _, _, h, _⟩ := h
    have := dep_pos s; omega
  | d + 1 =>
    have ih := laid_all D1 D2 D3 D4 D5 T G1 G2 G3 d
    ok_laid (k0 := 2 * d + 2 + 1) (kr := 2 * d + 2 + 1) (ke := 2 * d + 2 + 1) (km := 2 * d + 2 + 1) (kt := 2 * d + 2 + 1) D1 T (by omega) (Nat.le_refl _) (Nat.le_refl _) (Nat.le_refl _) (Nat.le_refl _) G2 (ok_laid_row D2 (by omega) G1 ih) (ok_laid_either D3 ih) (ok_laid_many D4 T (by omega) G3 ih) (ok_laid_times D5 T (by omega) G1 ih)
theorem shape_all {f1 : Addr} {fd1 : FuncData} (D1 : Def K mg "_law_shape" s_law_shape ["_law_left", "_law_tongue_here", "_law_deep", "_law_purse", "_law_room"] f1 fd1) (T : Txt K mg C) (G1 : Has P w K mg base "_law_draw" 1 ["_law_left", "_law_many"] (spDraw K)) (G2 : Has P w K mg base "_law_ones" 2 ["_law_left", "_law_tongue_here"] (spOnes K))
    (G3 : ∀ d : Nat, Has P w K mg base "_law_weight" (d + 1) ["_law_shape_here"] (spWeight K d)) : ∀ d : Nat, Has P w K mg base "_law_shape" (d + 2) ["_law_left", "_law_tongue_here", "_law_deep", "_law_purse", "_law_room"] (spShape K d)
  | 0 => vac D1 fun vs H Q E h => by
    obtain ⟨l, ca, rm, t, deep, purse, k, c, _, _, _, _, _, _, _, h1, h2, _⟩ := h
    omega
  | d + 1 => ok_law_shape D1 T G1 G2 (G3 d) (shape_all D1 T G1 G2 G3 d)
theorem course_all {f1 : Addr} {fd1 : FuncData} (D1 : Def K mg "_law_course" s_law_course ["_law_left", "_law_shape_here", "_law_at"] f1 fd1) (T : Txt K mg C) (G1 : Has P w K mg base "_law_draw" 1 ["_law_left", "_law_many"] (spDraw K)) (G2 : Has P w K mg base "_law_laid" 1 ["_law_shape_here"] (spLays K))
    (G3 : ∀ d : Nat, Has P w K mg base "_law_weight" (d + 1) ["_law_shape_here"] (spWeight K d)) : ∀ d : Nat, Has P w K mg base "_law_course" (d + 2) ["_law_left", "_law_shape_here", "_law_at"] (spCourse K d)
  | 0 => vac D1 fun vs H Q E h => by
    obtain ⟨l, ca, v, s, a, c, _, _, _, _, h, _⟩ := h
    have := dep_pos s; omega
  | d + 1 => ok_law_course D1 T G1 G2 (G3 d) (course_all D1 T G1 G2 G3 d)
theorem comes_all {f1 f2 f3 : Addr} {fd1 fd2 fd3 : FuncData} (D1 : Def K mg "_law_comes" s_law_comes ["_law_shape_here", "_law_at", "_law_row", "_law_k"] f1 fd1) (D2 : Def K mg "_law_comes_behind" s_law_comes_behind ["_law_part", "_law_at", "_law_row", "_law_here"] f2 fd2) (D3 : Def K mg "_law_comes_often" s_law_comes_often ["_law_part", "_law_at", "_law_row", "_law_k"] f3 fd3) (T : Txt K mg C)
    (G2 : Has P w K mg base "_law_laid" 1 ["_law_shape_here"] (spLays K)) (G3 : ∀ d : Nat, Has P w K mg base "_law_weight" (d + 1) ["_law_shape_here"] (spWeight K d)) : ∀ d : Nat, Has P w K mg base "_law_comes" (2 * d + 1) ["_law_shape_here", "_law_at", "_law_row", "_law_k"] (spComes K d)
  | 0 => vac D1 fun vs H Q E h => by
    obtain ⟨v, s, a, k, rw', ns, _, _, _, h, _⟩ := h
    have := dep_pos s; omega
  | d + 1 =>
    have ih := comes_all D1 D2 D3 T G2 G3 d
    ok_law_comes (k0 := 2 * d + 1 + 1) (kw := d + 1 + 1) (ko := 2 * d + 1 + 1) (kb := 2 * d + 1 + 1) (kc := 2 * d + 1) D1 T (by omega) (by omega) (Nat.le_refl _) (Nat.le_refl _) (by omega) (G3 (d + 1)) G2 (ok_law_comes_often D3 T ih) (ok_law_comes_behind D2 T ih) ih
end
set_option maxHeartbeats 4000000 in
theorem all_mk {l : PySem.W.OpenLaw} {w : World} {K : PySem.W.Frag} {h : Heap} {mg : Str → Option Value} {fa C : Addr} {mt : Tok} (X : K.In h) (G : h.Ns mainGlobals mg) (hfa : mg "law" = some (.ref fa))
    {f1 f2 f3 f4 f5 f6 f7 f8 f9 f10 f11 f12 f13 f14 f15 f16 f17 f18 f19 f20 f21 f22 f23 f24 f25 f26 f27 f28 : Addr} {od1 an1 od2 an2 od3 an3 od4 an4 od5 an5 od6 an6 od7 an7 od8 an8 od9 an9 od10 an10 od11 an11 od12 an12 od13 an13 od14 an14 od15 an15 od16 an16 od17 an17 od18 an18 od19 an19 od20 an20 od21 an21 od22 an22 od23 an23 od24 an24 od25 an25 od26 an26 od27 an27 od28 an28 : Option Addr} {sl1 sl2 sl3 sl4 sl5 sl6 sl7 sl8 sl9 sl10 sl11 sl12 sl13 sl14 sl15 sl16 sl17 sl18 sl19 sl20 sl21 sl22 sl23 sl24 sl25 sl26 sl27 sl28 : Array (Option Value)} {oc1 kV1 dc1 pm1 cd1 ct1 oc2 kV2 dc2 pm2 cd2 ct2 oc3 kV3 dc3 pm3 cd3 ct3 oc4 kV4 dc4 pm4 cd4 ct4 oc5 kV5 dc5 pm5 cd5 ct5 oc6 kV6 dc6 pm6 cd6 ct6 oc7 kV7 dc7 pm7 cd7 ct7 oc8 kV8 dc8 pm8 cd8 ct8 oc9 kV9 dc9 pm9 cd9 ct9 oc10 kV10 dc10 pm10 cd10 ct10 oc11 kV11 dc11 pm11 cd11 ct11 oc12 kV12 dc12 pm12 cd12 ct12 oc13 kV13 dc13 pm13 cd13 ct13 oc14 kV14 dc14 pm14 cd14 ct14 oc15 kV15 dc15 pm15 cd15 ct15 oc16 kV16 dc16 pm16 cd16 ct16 oc17 kV17 dc17 pm17 cd17 ct17 oc18 kV18 dc18 pm18 cd18 ct18 oc19 kV19 dc19 pm19 cd19 ct19 oc20 kV20 dc20 pm20 cd20 ct20 oc21 kV21 dc21 pm21 cd21 ct21 oc22 kV22 dc22 pm22 cd22 ct22 oc23 kV23 dc23 pm23 cd23 ct23 oc24 kV24 dc24 pm24 cd24 ct24 oc25 kV25 dc25 pm25 cd25 ct25 oc26 kV26 dc26 pm26 cd26 ct26 oc27 kV27 dc27 pm27 cd27 ct27 oc28 kV28 dc28 pm28 cd28 ct28 : Value}
    (aC : PySem.W.nsIn K mainGlobals "Plan" = some (some (.ref C)))
    (a1 : PySem.W.nsIn K mainGlobals "inner" = some (some (.ref f1))) (l1 : K.lookup f1 = some ⟨oc1, od1, .func (PySem.W.fnOf "inner" "inner" (defArgs s_inner) (defBody s_inner) (defScope s_inner) .none kV1 dc1 pm1 an1 cd1 ct1), sl1⟩) (c1 : PySem.W.codeIn K cd1 "inner" = true) (k1 : PySem.W.keepIn K (.ref f1) = true)
    (a2 : PySem.W.nsIn K mainGlobals "weight" = some (some (.ref f2))) (l2 : K.lookup f2 = some ⟨oc2, od2, .func (PySem.W.fnOf "weight" "weight" (defArgs s_weight) (defBody s_weight) (defScope s_weight) .none kV2 dc2 pm2 an2 cd2 ct2), sl2⟩) (c2 : PySem.W.codeIn K cd2 "weight" = true) (k2 : PySem.W.keepIn K (.ref f2) = true)
    (a3 : PySem.W.nsIn K mainGlobals "in_turn" = some (some (.ref f3))) (l3 : K.lookup f3 = some ⟨oc3, od3, .func (PySem.W.fnOf "in_turn" "in_turn" (defArgs s_in_turn) (defBody s_in_turn) (defScope s_in_turn) .none kV3 dc3 pm3 an3 cd3 ct3), sl3⟩) (c3 : PySem.W.codeIn K cd3 "in_turn" = true) (k3 : PySem.W.keepIn K (.ref f3) = true)
    (a4 : PySem.W.nsIn K mainGlobals "laid_row" = some (some (.ref f4))) (l4 : K.lookup f4 = some ⟨oc4, od4, .func (PySem.W.fnOf "laid_row" "laid_row" (defArgs s_laid_row) (defBody s_laid_row) (defScope s_laid_row) .none kV4 dc4 pm4 an4 cd4 ct4), sl4⟩) (c4 : PySem.W.codeIn K cd4 "laid_row" = true) (k4 : PySem.W.keepIn K (.ref f4) = true)
    (a5 : PySem.W.nsIn K mainGlobals "laid_either" = some (some (.ref f5))) (l5 : K.lookup f5 = some ⟨oc5, od5, .func (PySem.W.fnOf "laid_either" "laid_either" (defArgs s_laid_either) (defBody s_laid_either) (defScope s_laid_either) .none kV5 dc5 pm5 an5 cd5 ct5), sl5⟩) (c5 : PySem.W.codeIn K cd5 "laid_either" = true) (k5 : PySem.W.keepIn K (.ref f5) = true)
    (a6 : PySem.W.nsIn K mainGlobals "laid_many" = some (some (.ref f6))) (l6 : K.lookup f6 = some ⟨oc6, od6, .func (PySem.W.fnOf "laid_many" "laid_many" (defArgs s_laid_many) (defBody s_laid_many) (defScope s_laid_many) .none kV6 dc6 pm6 an6 cd6 ct6), sl6⟩) (c6 : PySem.W.codeIn K cd6 "laid_many" = true) (k6 : PySem.W.keepIn K (.ref f6) = true)
    (a7 : PySem.W.nsIn K mainGlobals "laid_times" = some (some (.ref f7))) (l7 : K.lookup f7 = some ⟨oc7, od7, .func (PySem.W.fnOf "laid_times" "laid_times" (defArgs s_laid_times) (defBody s_laid_times) (defScope s_laid_times) .none kV7 dc7 pm7 an7 cd7 ct7), sl7⟩) (c7 : PySem.W.codeIn K cd7 "laid_times" = true) (k7 : PySem.W.keepIn K (.ref f7) = true)
    (a8 : PySem.W.nsIn K mainGlobals "laid" = some (some (.ref f8))) (l8 : K.lookup f8 = some ⟨oc8, od8, .func (PySem.W.fnOf "laid" "laid" (defArgs s_laid) (defBody s_laid) (defScope s_laid) .none kV8 dc8 pm8 an8 cd8 ct8), sl8⟩) (c8 : PySem.W.codeIn K cd8 "laid" = true) (k8 : PySem.W.keepIn K (.ref f8) = true)
    (a9 : PySem.W.nsIn K mainGlobals "spread" = some (some (.ref f9))) (l9 : K.lookup f9 = some ⟨oc9, od9, .func (PySem.W.fnOf "spread" "spread" (defArgs s_spread) (defBody s_spread) (defScope s_spread) .none kV9 dc9 pm9 an9 cd9 ct9), sl9⟩) (c9 : PySem.W.codeIn K cd9 "spread" = true) (k9 : PySem.W.keepIn K (.ref f9) = true)
    (a10 : PySem.W.nsIn K mainGlobals "_law_source" = some (some (.ref f10))) (l10 : K.lookup f10 = some ⟨oc10, od10, .func (PySem.W.fnOf "_law_source" "_law_source" (defArgs s_law_source) (defBody s_law_source) (defScope s_law_source) .none kV10 dc10 pm10 an10 cd10 ct10), sl10⟩) (c10 : PySem.W.codeIn K cd10 "_law_source" = true) (k10 : PySem.W.keepIn K (.ref f10) = true)
    (a11 : PySem.W.nsIn K mainGlobals "_law_draw" = some (some (.ref f11))) (l11 : K.lookup f11 = some ⟨oc11, od11, .func (PySem.W.fnOf "_law_draw" "_law_draw" (defArgs s_law_draw) (defBody s_law_draw) (defScope s_law_draw) .none kV11 dc11 pm11 an11 cd11 ct11), sl11⟩) (c11 : PySem.W.codeIn K cd11 "_law_draw" = true) (k11 : PySem.W.keepIn K (.ref f11) = true)
    (a12 : PySem.W.nsIn K mainGlobals "_law_signs" = some (some (.ref f12))) (l12 : K.lookup f12 = some ⟨oc12, od12, .func (PySem.W.fnOf "_law_signs" "_law_signs" (defArgs s_law_signs) (defBody s_law_signs) (defScope s_law_signs) .none kV12 dc12 pm12 an12 cd12 ct12), sl12⟩) (c12 : PySem.W.codeIn K cd12 "_law_signs" = true) (k12 : PySem.W.keepIn K (.ref f12) = true)
    (a13 : PySem.W.nsIn K mainGlobals "_law_tongue" = some (some (.ref f13))) (l13 : K.lookup f13 = some ⟨oc13, od13, .func (PySem.W.fnOf "_law_tongue" "_law_tongue" (defArgs s_law_tongue) (defBody s_law_tongue) (defScope s_law_tongue) .none kV13 dc13 pm13 an13 cd13 ct13), sl13⟩) (c13 : PySem.W.codeIn K cd13 "_law_tongue" = true) (k13 : PySem.W.keepIn K (.ref f13) = true)
    (a14 : PySem.W.nsIn K mainGlobals "_law_ones" = some (some (.ref f14))) (l14 : K.lookup f14 = some ⟨oc14, od14, .func (PySem.W.fnOf "_law_ones" "_law_ones" (defArgs s_law_ones) (defBody s_law_ones) (defScope s_law_ones) .none kV14 dc14 pm14 an14 cd14 ct14), sl14⟩) (c14 : PySem.W.codeIn K cd14 "_law_ones" = true) (k14 : PySem.W.keepIn K (.ref f14) = true)
    (a15 : PySem.W.nsIn K mainGlobals "_law_weight" = some (some (.ref f15))) (l15 : K.lookup f15 = some ⟨oc15, od15, .func (PySem.W.fnOf "_law_weight" "_law_weight" (defArgs s_law_weight) (defBody s_law_weight) (defScope s_law_weight) .none kV15 dc15 pm15 an15 cd15 ct15), sl15⟩) (c15 : PySem.W.codeIn K cd15 "_law_weight" = true) (k15 : PySem.W.keepIn K (.ref f15) = true)
    (a16 : PySem.W.nsIn K mainGlobals "_law_shape" = some (some (.ref f16))) (l16 : K.lookup f16 = some ⟨oc16, od16, .func (PySem.W.fnOf "_law_shape" "_law_shape" (defArgs s_law_shape) (defBody s_law_shape) (defScope s_law_shape) .none kV16 dc16 pm16 an16 cd16 ct16), sl16⟩) (c16 : PySem.W.codeIn K cd16 "_law_shape" = true) (k16 : PySem.W.keepIn K (.ref f16) = true)
    (a17 : PySem.W.nsIn K mainGlobals "_law_laid" = some (some (.ref f17))) (l17 : K.lookup f17 = some ⟨oc17, od17, .func (PySem.W.fnOf "_law_laid" "_law_laid" (defArgs s_law_laid) (defBody s_law_laid) (defScope s_law_laid) .none kV17 dc17 pm17 an17 cd17 ct17), sl17⟩) (c17 : PySem.W.codeIn K cd17 "_law_laid" = true) (k17 : PySem.W.keepIn K (.ref f17) = true)
    (a18 : PySem.W.nsIn K mainGlobals "_law_comes" = some (some (.ref f18))) (l18 : K.lookup f18 = some ⟨oc18, od18, .func (PySem.W.fnOf "_law_comes" "_law_comes" (defArgs s_law_comes) (defBody s_law_comes) (defScope s_law_comes) .none kV18 dc18 pm18 an18 cd18 ct18), sl18⟩) (c18 : PySem.W.codeIn K cd18 "_law_comes" = true) (k18 : PySem.W.keepIn K (.ref f18) = true)
    (a19 : PySem.W.nsIn K mainGlobals "_law_comes_behind" = some (some (.ref f19))) (l19 : K.lookup f19 = some ⟨oc19, od19, .func (PySem.W.fnOf "_law_comes_behind" "_law_comes_behind" (defArgs s_law_comes_behind) (defBody s_law_comes_behind) (defScope s_law_comes_behind) .none kV19 dc19 pm19 an19 cd19 ct19), sl19⟩) (c19 : PySem.W.codeIn K cd19 "_law_comes_behind" = true) (k19 : PySem.W.keepIn K (.ref f19) = true)
    (a20 : PySem.W.nsIn K mainGlobals "_law_comes_often" = some (some (.ref f20))) (l20 : K.lookup f20 = some ⟨oc20, od20, .func (PySem.W.fnOf "_law_comes_often" "_law_comes_often" (defArgs s_law_comes_often) (defBody s_law_comes_often) (defScope s_law_comes_often) .none kV20 dc20 pm20 an20 cd20 ct20), sl20⟩) (c20 : PySem.W.codeIn K cd20 "_law_comes_often" = true) (k20 : PySem.W.keepIn K (.ref f20) = true)
    (a21 : PySem.W.nsIn K mainGlobals "_law_course" = some (some (.ref f21))) (l21 : K.lookup f21 = some ⟨oc21, od21, .func (PySem.W.fnOf "_law_course" "_law_course" (defArgs s_law_course) (defBody s_law_course) (defScope s_law_course) .none kV21 dc21 pm21 an21 cd21 ct21), sl21⟩) (c21 : PySem.W.codeIn K cd21 "_law_course" = true) (k21 : PySem.W.keepIn K (.ref f21) = true)
    (a22 : PySem.W.nsIn K mainGlobals "_law_gone" = some (some (.ref f22))) (l22 : K.lookup f22 = some ⟨oc22, od22, .func (PySem.W.fnOf "_law_gone" "_law_gone" (defArgs s_law_gone) (defBody s_law_gone) (defScope s_law_gone) .none kV22 dc22 pm22 an22 cd22 ct22), sl22⟩) (c22 : PySem.W.codeIn K cd22 "_law_gone" = true) (k22 : PySem.W.keepIn K (.ref f22) = true)
    (a23 : PySem.W.nsIn K mainGlobals "_law_bent" = some (some (.ref f23))) (l23 : K.lookup f23 = some ⟨oc23, od23, .func (PySem.W.fnOf "_law_bent" "_law_bent" (defArgs s_law_bent) (defBody s_law_bent) (defScope s_law_bent) .none kV23 dc23 pm23 an23 cd23 ct23), sl23⟩) (c23 : PySem.W.codeIn K cd23 "_law_bent" = true) (k23 : PySem.W.keepIn K (.ref f23) = true)
    (a24 : PySem.W.nsIn K mainGlobals "_law_along" = some (some (.ref f24))) (l24 : K.lookup f24 = some ⟨oc24, od24, .func (PySem.W.fnOf "_law_along" "_law_along" (defArgs s_law_along) (defBody s_law_along) (defScope s_law_along) .none kV24 dc24 pm24 an24 cd24 ct24), sl24⟩) (c24 : PySem.W.codeIn K cd24 "_law_along" = true) (k24 : PySem.W.keepIn K (.ref f24) = true)
    (a25 : PySem.W.nsIn K mainGlobals "law" = some (some (.ref f25))) (l25 : K.lookup f25 = some ⟨oc25, od25, .func (PySem.W.fnOf "law" "law" (defArgs s_law) (defBody s_law) (defScope s_law) .none kV25 dc25 pm25 an25 cd25 ct25), sl25⟩) (c25 : PySem.W.codeIn K cd25 "law" = true) (k25 : PySem.W.keepIn K (.ref f25) = true)
    (a26 : PySem.W.findIn K (.ref C) "__init__" = some (some (.ref f26))) (i26 : PySem.W.isFn K (.ref f26) = true) (l26 : K.lookup f26 = some ⟨oc26, od26, .func (PySem.W.fnOf "__init__" "Plan.__init__" (defArgs s_init) (defBody s_init) (defScope s_init) .none kV26 dc26 pm26 an26 cd26 ct26), sl26⟩) (c26 : PySem.W.codeIn K cd26 "Plan.__init__" = true) (k26 : PySem.W.keepIn K (.ref f26) = true)
    (a27 : PySem.W.findIn K (.ref C) "lay" = some (some (.ref f27))) (i27 : PySem.W.isFn K (.ref f27) = true) (l27 : K.lookup f27 = some ⟨oc27, od27, .func (PySem.W.fnOf "lay" "Plan.lay" (defArgs s_lay) (defBody s_lay) (defScope s_lay) .none kV27 dc27 pm27 an27 cd27 ct27), sl27⟩) (c27 : PySem.W.codeIn K cd27 "Plan.lay" = true) (k27 : PySem.W.keepIn K (.ref f27) = true)
    (a28 : PySem.W.findIn K (.ref C) "link" = some (some (.ref f28))) (i28 : PySem.W.isFn K (.ref f28) = true) (l28 : K.lookup f28 = some ⟨oc28, od28, .func (PySem.W.fnOf "link" "Plan.link" (defArgs s_link) (defBody s_link) (defScope s_link) .none kV28 dc28 pm28 an28 cd28 ct28), sl28⟩) (c28 : PySem.W.codeIn K cd28 "Plan.link" = true) (k28 : PySem.W.keepIn K (.ref f28) = true)
    (b_len : PySem.W.nsIn K mainGlobals "len" = some none)
    (b_abs : PySem.W.nsIn K mainGlobals "abs" = some none)
    (b_int : PySem.W.nsIn K mainGlobals "int" = some none)
    (b_sum : PySem.W.nsIn K mainGlobals "sum" = some none)
    (b_max : PySem.W.nsIn K mainGlobals "max" = some none)
    (b_range : PySem.W.nsIn K mainGlobals "range" = some none)
    (b_sorted : PySem.W.nsIn K mainGlobals "sorted" = some none)
    (b_set : PySem.W.nsIn K mainGlobals "set" = some none)
    (b_tuple : PySem.W.nsIn K mainGlobals "tuple" = some none)
    (b_enumerate : PySem.W.nsIn K mainGlobals "enumerate" = some none)
    (mw : PySem.W.nsIn K mainGlobals "MOST_WEIGHT" = some (some (.int 10 mt)))
    (pgC : PySem.W.plainGet K C Str.empty = true) (hdC : PySem.W.hasDictIn K C = true) (poC : PySem.W.plainOver K C = true) (saC : PySem.W.findIn K (.ref C) "__setattr__" = some (some (.builtin "object.__setattr__"))) (mkC : PySem.W.makesIn K C = true) (kcC : PySem.W.keepIn K (.ref C) = true) (nM : PySem.W.findIn K (.ref C) "marks" = some none) (nN : PySem.W.findIn K (.ref C) "nexts" = some none) :
    ∃ fd : FuncData, (∀ (s : Shared) (v : Value), BindsTo s fd ⟨[v], []⟩ [("_law_script", v)]) ∧ ∀ base : Heap, K.In base → base.Ns mainGlobals mg → FnOk l.prog w K mg base CX0 14 fa fd ["_law_script"] (spLaw K) := by
  have e := hfa.symm.trans (PySem.W.mg_of X G a25)
  cases e
  have T : Txt K mg C := ⟨PySem.W.mg_none_of X G b_len, PySem.W.mg_none_of X G b_abs, PySem.W.mg_none_of X G b_int, PySem.W.mg_none_of X G b_sum, PySem.W.mg_none_of X G b_max, PySem.W.mg_none_of X G b_range, PySem.W.mg_none_of X G b_sorted, PySem.W.mg_none_of X G b_set, PySem.W.mg_none_of X G b_tuple, PySem.W.mg_none_of X G b_enumerate, ⟨_, PySem.W.mg_of X G mw⟩, ⟨pgC, hdC, poC, saC⟩, nM, nN, PySem.W.mg_of X G aC⟩
  have F1 := fun_mk (st := s_inner) l1 c1 k1
  have D1 : Def K mg "inner" s_inner ["shape"] _ _ := ⟨F1, PySem.W.mg_of X G a1, F1.binds (ps := ["shape"]) fun _ _ _ _ _ _ us hl => match us, hl with | [_], _ => rfl⟩
  have F2 := fun_mk (st := s_weight) l2 c2 k2
  have D2 : Def K mg "weight" s_weight ["shape"] _ _ := ⟨F2, PySem.W.mg_of X G a2, F2.binds (ps := ["shape"]) fun _ _ _ _ _ _ us hl => match us, hl with | [_], _ => rfl⟩
  have F3 := fun_mk (st := s_in_turn) l3 c3 k3
  have D3 : Def K mg "in_turn" s_in_turn ["plan", "ends", "more"] _ _ := ⟨F3, PySem.W.mg_of X G a3, F3.binds (ps := ["plan", "ends", "more"]) fun _ _ _ _ _ _ us hl => match us, hl with | [_, _, _], _ => rfl⟩
  have F4 := fun_mk (st := s_laid_row) l4 c4 k4
  have D4 : Def K mg "laid_row" s_laid_row ["plan", "parts"] _ _ := ⟨F4, PySem.W.mg_of X G a4, F4.binds (ps := ["plan", "parts"]) fun _ _ _ _ _ _ us hl => match us, hl with | [_, _], _ => rfl⟩
  have F5 := fun_mk (st := s_laid_either) l5 c5 k5
  have D5 : Def K mg "laid_either" s_laid_either ["plan", "parts"] _ _ := ⟨F5, PySem.W.mg_of X G a5, F5.binds (ps := ["plan", "parts"]) fun _ _ _ _ _ _ us hl => match us, hl with | [_, _], _ => rfl⟩
  have F6 := fun_mk (st := s_laid_many) l6 c6 k6
  have D6 : Def K mg "laid_many" s_laid_many ["plan", "part"] _ _ := ⟨F6, PySem.W.mg_of X G a6, F6.binds (ps := ["plan", "part"]) fun _ _ _ _ _ _ us hl => match us, hl with | [_, _], _ => rfl⟩
  have F7 := fun_mk (st := s_laid_times) l7 c7 k7
  have D7 : Def K mg "laid_times" s_laid_times ["plan", "part", "low", "high"] _ _ := ⟨F7, PySem.W.mg_of X G a7, F7.binds (ps := ["plan", "part", "low", "high"]) fun _ _ _ _ _ _ us hl => match us, hl with | [_, _, _, _], _ => rfl⟩
  have F8 := fun_mk (st := s_laid) l8 c8 k8
  have D8 : Def K mg "laid" s_laid ["plan", "shape"] _ _ := ⟨F8, PySem.W.mg_of X G a8, F8.binds (ps := ["plan", "shape"]) fun _ _ _ _ _ _ us hl => match us, hl with | [_, _], _ => rfl⟩
  have F9 := fun_mk (st := s_spread) l9 c9 k9
  have D9 : Def K mg "spread" s_spread ["shape"] _ _ := ⟨F9, PySem.W.mg_of X G a9, F9.binds (ps := ["shape"]) fun _ _ _ _ _ _ us hl => match us, hl with | [_], _ => rfl⟩
  have F10 := fun_mk (st := s_law_source) l10 c10 k10
  have D10 : Def K mg "_law_source" s_law_source ["_law_script"] _ _ := ⟨F10, PySem.W.mg_of X G a10, F10.binds (ps := ["_law_script"]) fun _ _ _ _ _ _ us hl => match us, hl with | [_], _ => rfl⟩
  have F11 := fun_mk (st := s_law_draw) l11 c11 k11
  have D11 : Def K mg "_law_draw" s_law_draw ["_law_left", "_law_many"] _ _ := ⟨F11, PySem.W.mg_of X G a11, F11.binds (ps := ["_law_left", "_law_many"]) fun _ _ _ _ _ _ us hl => match us, hl with | [_, _], _ => rfl⟩
  have F12 := fun_mk (st := s_law_signs) l12 c12 k12
  have D12 : Def K mg "_law_signs" s_law_signs [] _ _ := ⟨F12, PySem.W.mg_of X G a12, F12.binds (ps := []) fun _ _ _ _ _ _ us hl => match us, hl with | [], _ => rfl⟩
  have F13 := fun_mk (st := s_law_tongue) l13 c13 k13
  have D13 : Def K mg "_law_tongue" s_law_tongue ["_law_left"] _ _ := ⟨F13, PySem.W.mg_of X G a13, F13.binds (ps := ["_law_left"]) fun _ _ _ _ _ _ us hl => match us, hl with | [_], _ => rfl⟩
  have F14 := fun_mk (st := s_law_ones) l14 c14 k14
  have D14 : Def K mg "_law_ones" s_law_ones ["_law_left", "_law_tongue_here"] _ _ := ⟨F14, PySem.W.mg_of X G a14, F14.binds (ps := ["_law_left", "_law_tongue_here"]) fun _ _ _ _ _ _ us hl => match us, hl with | [_, _], _ => rfl⟩
  have F15 := fun_mk (st := s_law_weight) l15 c15 k15
  have D15 : Def K mg "_law_weight" s_law_weight ["_law_shape_here"] _ _ := ⟨F15, PySem.W.mg_of X G a15, F15.binds (ps := ["_law_shape_here"]) fun _ _ _ _ _ _ us hl => match us, hl with | [_], _ => rfl⟩
  have F16 := fun_mk (st := s_law_shape) l16 c16 k16
  have D16 : Def K mg "_law_shape" s_law_shape ["_law_left", "_law_tongue_here", "_law_deep", "_law_purse", "_law_room"] _ _ := ⟨F16, PySem.W.mg_of X G a16, F16.binds (ps := ["_law_left", "_law_tongue_here", "_law_deep", "_law_purse", "_law_room"]) fun _ _ _ _ _ _ us hl => match us, hl with | [_, _, _, _, _], _ => rfl⟩
  have F17 := fun_mk (st := s_law_laid) l17 c17 k17
  have D17 : Def K mg "_law_laid" s_law_laid ["_law_shape_here"] _ _ := ⟨F17, PySem.W.mg_of X G a17, F17.binds (ps := ["_law_shape_here"]) fun _ _ _ _ _ _ us hl => match us, hl with | [_], _ => rfl⟩
  have F18 := fun_mk (st := s_law_comes) l18 c18 k18
  have D18 : Def K mg "_law_comes" s_law_comes ["_law_shape_here", "_law_at", "_law_row", "_law_k"] _ _ := ⟨F18, PySem.W.mg_of X G a18, F18.binds (ps := ["_law_shape_here", "_law_at", "_law_row", "_law_k"]) fun _ _ _ _ _ _ us hl => match us, hl with | [_, _, _, _], _ => rfl⟩
  have F19 := fun_mk (st := s_law_comes_behind) l19 c19 k19
  have D19 : Def K mg "_law_comes_behind" s_law_comes_behind ["_law_part", "_law_at", "_law_row", "_law_here"] _ _ := ⟨F19, PySem.W.mg_of X G a19, F19.binds (ps := ["_law_part", "_law_at", "_law_row", "_law_here"]) fun _ _ _ _ _ _ us hl => match us, hl with | [_, _, _, _], _ => rfl⟩
  have F20 := fun_mk (st := s_law_comes_often) l20 c20 k20
  have D20 : Def K mg "_law_comes_often" s_law_comes_often ["_law_part", "_law_at", "_law_row", "_law_k"] _ _ := ⟨F20, PySem.W.mg_of X G a20, F20.binds (ps := ["_law_part", "_law_at", "_law_row", "_law_k"]) fun _ _ _ _ _ _ us hl => match us, hl with | [_, _, _, _], _ => rfl⟩
  have F21 := fun_mk (st := s_law_course) l21 c21 k21
  have D21 : Def K mg "_law_course" s_law_course ["_law_left", "_law_shape_here", "_law_at"] _ _ := ⟨F21, PySem.W.mg_of X G a21, F21.binds (ps := ["_law_left", "_law_shape_here", "_law_at"]) fun _ _ _ _ _ _ us hl => match us, hl with | [_, _, _], _ => rfl⟩
  have F22 := fun_mk (st := s_law_gone) l22 c22 k22
  have D22 : Def K mg "_law_gone" s_law_gone ["_law_left", "_law_told"] _ _ := ⟨F22, PySem.W.mg_of X G a22, F22.binds (ps := ["_law_left", "_law_told"]) fun _ _ _ _ _ _ us hl => match us, hl with | [_, _], _ => rfl⟩
  have F23 := fun_mk (st := s_law_bent) l23 c23 k23
  have D23 : Def K mg "_law_bent" s_law_bent ["_law_left", "_law_row", "_law_many"] _ _ := ⟨F23, PySem.W.mg_of X G a23, F23.binds (ps := ["_law_left", "_law_row", "_law_many"]) fun _ _ _ _ _ _ us hl => match us, hl with | [_, _, _], _ => rfl⟩
  have F24 := fun_mk (st := s_law_along) l24 c24 k24
  have D24 : Def K mg "_law_along" s_law_along ["_law_told", "_law_row"] _ _ := ⟨F24, PySem.W.mg_of X G a24, F24.binds (ps := ["_law_told", "_law_row"]) fun _ _ _ _ _ _ us hl => match us, hl with | [_, _], _ => rfl⟩
  have F25 := fun_mk (st := s_law) l25 c25 k25
  have D25 : Def K mg "law" s_law ["_law_script"] _ _ := ⟨F25, PySem.W.mg_of X G a25, F25.binds (ps := ["_law_script"]) fun _ _ _ _ _ _ us hl => match us, hl with | [_], _ => rfl⟩
  have F26 := fun_mk (st := s_init) l26 c26 k26
  have B26 := F26.binds (ps := ["self"]) fun _ _ _ _ _ _ us hl => match us, hl with | [_], _ => rfl
  have F27 := fun_mk (st := s_lay) l27 c27 k27
  have B27 := F27.binds (ps := ["self", "signs"]) fun _ _ _ _ _ _ us hl => match us, hl with | [_, _], _ => rfl
  have D27 : DefM K C "lay" "Plan.lay" s_lay ["self", "signs"] _ _ := ⟨F27, ⟨a27, i27, k27⟩, B27⟩
  have F28 := fun_mk (st := s_link) l28 c28 k28
  have B28 := F28.binds (ps := ["self", "places", "others"]) fun _ _ _ _ _ _ us hl => match us, hl with | [_, _, _], _ => rfl
  have D28 : DefM K C "link" "Plan.link" s_link ["self", "places", "others"] _ _ := ⟨F28, ⟨a28, i28, k28⟩, B28⟩
  have M : Mk K C f26 := ⟨mkC, a26, i26, kcC⟩
  refine ⟨PySem.W.fnOf "law" "law" (defArgs s_law) (defBody s_law) (defScope s_law) .none kV25 dc25 pm25 an25 cd25 ct25, fun s v => .of_eq rfl, fun base _ _ => ?_⟩
  have G_init := ok_init (P := l.prog) (w := w) (base := base) F26 M B26 T
  have G_lay := ok_lay (P := l.prog) (w := w) (base := base) D27 T
  have G_link := ok_link (P := l.prog) (w := w) (base := base) D28 T
  have G_weight := weight_all (P := l.prog) (w := w) (base := base) D1 D2 T 5
  have G_laid := laid_all D8 D4 D5 D6 D7 T (ok_in_turn D3 T G_link) G_lay G_link 5
  have G_spread := ok_spread (k0 := 12) D9 T (by decide) (by decide) (by decide) G_weight G_init G_link G_laid
  have G_draw := ok_law_draw (P := l.prog) (w := w) (base := base) D11 T
  have G_lw := lw_all (P := l.prog) (w := w) (base := base) D15 T
  have G_laws := ok_law_laid (P := l.prog) (w := w) (base := base) D17
  have G_shape := shape_all D16 T G_draw (ok_law_ones D14 T G_draw) G_lw 5
  have G_course := course_all D21 T G_draw G_laws G_lw 5
  have G_comes := comes_all D18 D19 D20 T G_laws G_lw 5
  exact ok_law (k0 := 13) D25 T (by decide) (by decide) (by decide) (by decide) (by decide) (by decide) (ok_law_source D10 T) (ok_law_tongue D13 T (ok_law_signs D12) G_draw) G_draw G_shape (G_lw 5) G_spread G_course (ok_law_gone D22 T G_draw) (ok_law_bent D23 T G_draw) (ok_law_along D24 T) G_comes

theorem walk {l : PySem.W.OpenLaw} {q : Program} {loose : List Str} {XP : (Str → Option Value) → Heap → Prop} {YP : World → Heap → Prop} {d : DefRec} {K : Params → PySem.W.Frag} (hn : l.most = some 63) (hdf : d.params.defaults = [])
    (hY : ∀ (w : World) (h : Heap), YP w h → (K w.params).In h)
    (F : ∀ (w : World) (mg : Str → Option Value) (fa : Addr) (h : Heap), (K w.params).In h → h.Ns mainGlobals mg → mg d.name = some (.ref fa) →
      ∃ fd : FuncData, (∀ (s : Shared) (u : Value), BindsTo s fd ⟨[u], []⟩ [("_law_script", u)]) ∧ ∀ base : Heap, (K w.params).In base → base.Ns mainGlobals mg → FnOk l.prog w (K w.params) mg base CX0 14 fa fd ["_law_script"] (spLaw (K w.params))) :
    PySem.W.WalkO q loose XP YP l.row.toRowW d [] (fun f vs => PySem.call f vs) :=
  L2.walk_of (n := 63) (k := 14) (x := "_law_script") (CX := fun _ => CX0) (sp := fun w => spLaw (K w.params)) hn (by decide) hdf ⟨rfl, by decide, by decide⟩ hY F (fun _ _ a ns hl _ hS => ⟨a, ns, rfl, hS, hl, fun _ => rfl⟩) fun _ _ _ _ _ z => z
end K12

open PySem PySem.W PyProof.Rows
set_option maxRecDepth 100000 in
set_option maxHeartbeats 0 in
theorem PySem.Challenge.cw_nearreach_k12_whole_courses_and_spreads_holds : PySem.Challenge.rw_nearreach_k12_whole_courses_and_spreads.Holds := by
  w_on; o_law; k_head; (case hw => w_witness2)
  k_fill
  refine K12.walk (l := PySem.Challenge.rw_nearreach_k12_whole_courses_and_spreads) rfl rfl (fun w h Y => PySem.W.kIn_of Y) ?F
  case F =>
    intro w mg fa h KX G hmg
    refine' K12.all_mk KX G hmg ?aC ?a1 ?l1 ?c1 ?k1 ?a2 ?l2 ?c2 ?k2 ?a3 ?l3 ?c3 ?k3 ?a4 ?l4 ?c4 ?k4 ?a5 ?l5 ?c5 ?k5 ?a6 ?l6 ?c6 ?k6 ?a7 ?l7 ?c7 ?k7 ?a8 ?l8 ?c8 ?k8 ?a9 ?l9 ?c9 ?k9 ?a10 ?l10 ?c10 ?k10 ?a11 ?l11 ?c11 ?k11 ?a12 ?l12 ?c12 ?k12 ?a13 ?l13 ?c13 ?k13 ?a14 ?l14 ?c14 ?k14 ?a15 ?l15 ?c15 ?k15 ?a16 ?l16 ?c16 ?k16 ?a17 ?l17 ?c17 ?k17 ?a18 ?l18 ?c18 ?k18 ?a19 ?l19 ?c19 ?k19 ?a20 ?l20 ?c20 ?k20 ?a21 ?l21 ?c21 ?k21 ?a22 ?l22 ?c22 ?k22 ?a23 ?l23 ?c23 ?k23 ?a24 ?l24 ?c24 ?k24 ?a25 ?l25 ?c25 ?k25 ?a26 ?i26 ?l26 ?c26 ?k26 ?a27 ?i27 ?l27 ?c27 ?k27 ?a28 ?i28 ?l28 ?c28 ?k28 ?b_len ?b_abs ?b_int ?b_sum ?b_max ?b_range ?b_sorted ?b_set ?b_tuple ?b_enumerate ?mw ?pgC ?hdC ?poC ?saC ?mkC ?kcC ?nM ?nN
    (case aC => k_is)
    (case a1 => k_is)
    (case l1 => k_is)
    (case c1 => k_is)
    (case k1 => k_is)
    (case a2 => k_is)
    (case l2 => k_is)
    (case c2 => k_is)
    (case k2 => k_is)
    (case a3 => k_is)
    (case l3 => k_is)
    (case c3 => k_is)
    (case k3 => k_is)
    (case a4 => k_is)
    (case l4 => k_is)
    (case c4 => k_is)
    (case k4 => k_is)
    (case a5 => k_is)
    (case l5 => k_is)
    (case c5 => k_is)
    (case k5 => k_is)
    (case a6 => k_is)
    (case l6 => k_is)
    (case c6 => k_is)
    (case k6 => k_is)
    (case a7 => k_is)
    (case l7 => k_is)
    (case c7 => k_is)
    (case k7 => k_is)
    (case a8 => k_is)
    (case l8 => k_is)
    (case c8 => k_is)
    (case k8 => k_is)
    (case a9 => k_is)
    (case l9 => k_is)
    (case c9 => k_is)
    (case k9 => k_is)
    (case a10 => k_is)
    (case l10 => k_is)
    (case c10 => k_is)
    (case k10 => k_is)
    (case a11 => k_is)
    (case l11 => k_is)
    (case c11 => k_is)
    (case k11 => k_is)
    (case a12 => k_is)
    (case l12 => k_is)
    (case c12 => k_is)
    (case k12 => k_is)
    (case a13 => k_is)
    (case l13 => k_is)
    (case c13 => k_is)
    (case k13 => k_is)
    (case a14 => k_is)
    (case l14 => k_is)
    (case c14 => k_is)
    (case k14 => k_is)
    (case a15 => k_is)
    (case l15 => k_is)
    (case c15 => k_is)
    (case k15 => k_is)
    (case a16 => k_is)
    (case l16 => k_is)
    (case c16 => k_is)
    (case k16 => k_is)
    (case a17 => k_is)
    (case l17 => k_is)
    (case c17 => k_is)
    (case k17 => k_is)
    (case a18 => k_is)
    (case l18 => k_is)
    (case c18 => k_is)
    (case k18 => k_is)
    (case a19 => k_is)
    (case l19 => k_is)
    (case c19 => k_is)
    (case k19 => k_is)
    (case a20 => k_is)
    (case l20 => k_is)
    (case c20 => k_is)
    (case k20 => k_is)
    (case a21 => k_is)
    (case l21 => k_is)
    (case c21 => k_is)
    (case k21 => k_is)
    (case a22 => k_is)
    (case l22 => k_is)
    (case c22 => k_is)
    (case k22 => k_is)
    (case a23 => k_is)
    (case l23 => k_is)
    (case c23 => k_is)
    (case k23 => k_is)
    (case a24 => k_is)
    (case l24 => k_is)
    (case c24 => k_is)
    (case k24 => k_is)
    (case a25 => k_is)
    (case l25 => k_is)
    (case c25 => k_is)
    (case k25 => k_is)
    (case a26 => k_is)
    (case i26 => k_is)
    (case l26 => k_is)
    (case c26 => k_is)
    (case k26 => k_is)
    (case a27 => k_is)
    (case i27 => k_is)
    (case l27 => k_is)
    (case c27 => k_is)
    (case k27 => k_is)
    (case a28 => k_is)
    (case i28 => k_is)
    (case l28 => k_is)
    (case c28 => k_is)
    (case k28 => k_is)
    (case b_len => k_is)
    (case b_abs => k_is)
    (case b_int => k_is)
    (case b_sum => k_is)
    (case b_max => k_is)
    (case b_range => k_is)
    (case b_sorted => k_is)
    (case b_set => k_is)
    (case b_tuple => k_is)
    (case b_enumerate => k_is)
    (case mw => k_is)
    (case pgC => k_is)
    (case hdC => k_is)
    (case poC => k_is)
    (case saC => k_is)
    (case mkC => k_is)
    (case kcC => k_is)
    (case nM => k_is)
    (case nN => k_is)

