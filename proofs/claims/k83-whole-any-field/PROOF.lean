import PyProof.Rows.All
import Wide.All
import OpenK.AllK
import Wide.FinOn
import HandS.ForMost
import HandS.IsInst
import HandS.Style
import HandS.Walk
import HandS.Flow
import HandS.Evl
import KE.GoesMore
import KE.GoesEnum
import PySem.Challenge.RW_alikeplay_k83_whole_any_field
set_option Elab.async false
set_option linter.all false
set_option maxRecDepth 100000
set_option maxHeartbeats 4000000
/-! is_field over every grid, goals and value that the law draws: the plain law (Kf, ahead), one promise a def, the law itself at the end. -/
/-! The plain law: fields of distances over a small grid, with no program in sight. -/
namespace Kf

abbrev P := Int × Int

/-- a grid: its columns, its rows, the codes of its signs row by row -/
structure Gd where
  w : Nat
  r : Nat
  cs : List Nat
abbrev Gd.n (g : Gd) : Nat := g.w * g.r
structure Gd.Ok (g : Gd) : Prop where
  w1 : 1 ≤ g.w
  w6 : g.w ≤ 6
  r1 : 1 ≤ g.r
  r6 : g.r ≤ 6
  len : g.cs.length = g.n
  sg : ∀ c ∈ g.cs, c = 46 ∨ c = 35 ∨ c = 94 ∨ c = 126
theorem Gd.Ok.n36 {g : Gd} (ok : g.Ok) : g.n ≤ 36 := Nat.mul_le_mul ok.w6 ok.r6
theorem Gd.Ok.n1 {g : Gd} (ok : g.Ok) : 1 ≤ g.n := Nat.mul_le_mul ok.w1 ok.r1

def sc (c : Nat) : Int := if c = 35 then 0 else if c = 126 then 3 else 1
def outG (g : Gd) (p : P) : Prop := p.1 < 0 ∨ p.2 < 0 ∨ (g.w : Int) ≤ p.1 ∨ (g.r : Int) ≤ p.2
instance (g : Gd) (p : P) : Decidable (outG g p) := by unfold outG; infer_instance
def inG (g : Gd) (p : P) : Prop := 0 ≤ p.1 ∧ p.1 < (g.w : Int) ∧ 0 ≤ p.2 ∧ p.2 < (g.r : Int)
theorem inG_of {g : Gd} {p : P} (h : ¬ outG g p) : inG g p := by
  unfold outG at h
  unfold inG
  omega
theorem outG_not {g : Gd} {p : P} (h : inG g p) : ¬ outG g p := by
  unfold inG at h
  unfold outG
  omega
def idx (g : Gd) (p : P) : Nat := (p.2 * (g.w : Int) + p.1).toNat
def cell (g : Gd) (i : Nat) : P := (((i % g.w : Nat) : Int), ((i / g.w : Nat) : Int))
def cost (g : Gd) (p : P) : Int := if outG g p then 0 else sc (g.cs.getD (idx g p) 35)
theorem sc_nn (c : Nat) : 0 ≤ sc c := by
  unfold sc
  split
  · omega
  · split <;> omega
theorem sc_le (c : Nat) : sc c ≤ 3 := by
  unfold sc
  split
  · omega
  · split <;> omega
theorem cost_nn (g : Gd) (p : P) : 0 ≤ cost g p := by
  unfold cost
  split
  · omega
  · exact sc_nn _
theorem cost_le (g : Gd) (p : P) : cost g p ≤ 3 := by
  unfold cost
  split
  · omega
  · exact sc_le _
theorem cost_in {g : Gd} {p : P} (h : 0 < cost g p) : inG g p := by
  unfold cost at h
  split at h
  · omega
  · rename_i q
    exact inG_of q

theorem idx_nat {g : Gd} {a b : Nat} : idx g ((a : Int), (b : Int)) = b * g.w + a := by
  show ((b : Int) * (g.w : Int) + (a : Int)).toNat = b * g.w + a
  rw [← Int.natCast_mul, ← Int.natCast_add]
  exact Int.toNat_natCast _
theorem nat_of {g : Gd} {p : P} (h : inG g p) : ∃ a b : Nat, p = ((a : Int), (b : Int)) ∧ a < g.w ∧ b < g.r := by
  obtain ⟨h1, h2, h3, h4⟩ := h
  refine ⟨p.1.toNat, p.2.toNat, ?_, by omega, by omega⟩
  rw [Int.toNat_of_nonneg h1, Int.toNat_of_nonneg h3]
theorem cell_in {g : Gd} {i : Nat} (hw : 1 ≤ g.w) (h : i < g.n) : inG g (cell g i) := by
  have h1 : i % g.w < g.w := Nat.mod_lt _ hw
  have h2 : i / g.w < g.r := Nat.div_lt_of_lt_mul h
  exact ⟨Int.natCast_nonneg _, Int.ofNat_lt.mpr h1, Int.natCast_nonneg _, Int.ofNat_lt.mpr h2⟩
theorem idx_cell {g : Gd} (i : Nat) : idx g (cell g i) = i := by
  unfold cell
  rw [idx_nat, Nat.mul_comm]
  exact Nat.div_add_mod i g.w
theorem idx_lt {g : Gd} {p : P} (h : inG g p) : idx g p < g.n := by
  obtain ⟨a, b, rfl, ha, hb⟩ := nat_of h
  rw [idx_nat]
  have h1 : (b + 1) * g.w ≤ g.r * g.w := Nat.mul_le_mul_right _ hb
  have h2 : (b + 1) * g.w = b * g.w + g.w := Nat.succ_mul b g.w
  have h3 : g.r * g.w = g.w * g.r := Nat.mul_comm _ _
  show b * g.w + a < g.w * g.r
  omega
theorem cell_at {g : Gd} {a b : Nat} (ha : a < g.w) : cell g (b * g.w + a) = ((a : Int), (b : Int)) := by
  unfold cell
  have h1 : (b * g.w + a) % g.w = a := by
    rw [Nat.mul_comm, Nat.mul_add_mod, Nat.mod_eq_of_lt ha]
  have h2 : (b * g.w + a) / g.w = b := by
    rw [Nat.mul_comm, Nat.mul_add_div (by omega), Nat.div_eq_of_lt ha, Nat.add_zero]
  rw [h1, h2]
theorem cell_idx {g : Gd} {p : P} (h : inG g p) : cell g (idx g p) = p := by
  obtain ⟨a, b, rfl, ha, hb⟩ := nat_of h
  rw [idx_nat, cell_at ha]

/-! ### the ways, the paths -/
def nb (p : P) : List P := [(p.1 + 1, p.2), (p.1, p.2 + 1), (p.1 - 1, p.2), (p.1, p.2 - 1)]
def bes (g : Gd) (p : P) : List P := (nb p).filter fun q => decide (0 < cost g q)
theorem mem_bes {g : Gd} {p q : P} : q ∈ bes g p ↔ q ∈ nb p ∧ 0 < cost g q := by
  unfold bes
  rw [List.mem_filter, decide_eq_true_iff]
theorem bes_len (g : Gd) (p : P) : (bes g p).length ≤ 4 := List.length_filter_le _ (nb p)

inductive Reach (g : Gd) (goals : List P) : P → Int → Prop
  | goal {p : P} (h : p ∈ goals) (c : 0 < cost g p) : Reach g goals p 0
  | step {p q : P} {k : Int} (c : 0 < cost g p) (n : q ∈ nb p) (h : Reach g goals q k) : Reach g goals p (k + cost g q)
theorem Reach.op {g : Gd} {goals : List P} {p : P} {k : Int} (h : Reach g goals p k) : 0 < cost g p := by
  cases h with
  | goal _ c => exact c
  | step c _ _ => exact c
theorem Reach.nn {g : Gd} {goals : List P} {p : P} {k : Int} (h : Reach g goals p k) : 0 ≤ k := by
  induction h with
  | goal _ _ => exact Int.le_refl 0
  | step _ _ h ih =>
    have := h.op
    omega

abbrev Fn := P → Option Int
def Le (F F' : Fn) : Prop := ∀ p j, F p = some j → ∃ j', F' p = some j' ∧ j' ≤ j
theorem Le.refl (F : Fn) : Le F F := fun _ j h => ⟨j, h, Int.le_refl j⟩
theorem Le.trans {F G H : Fn} (a : Le F G) (b : Le G H) : Le F H := fun p j h => by
  obtain ⟨j1, h1, l1⟩ := a p j h
  obtain ⟨j2, h2, l2⟩ := b p j1 h1
  exact ⟨j2, h2, Int.le_trans l2 l1⟩
def Fin (g : Gd) (goals : List P) (F : Fn) (p : P) : Prop := ∀ k, Reach g goals p k → ∃ j, F p = some j ∧ j ≤ k
theorem Fin.mono {g : Gd} {goals : List P} {F F' : Fn} {p : P} (h : Fin g goals F p) (l : Le F F') : Fin g goals F' p := fun k r => by
  obtain ⟨j, e, a⟩ := h k r
  obtain ⟨j', e', a'⟩ := l p j e
  exact ⟨j', e', Int.le_trans a' a⟩
structure Far (g : Gd) (goals : List P) (F : Fn) : Prop where
  sound : ∀ p k, F p = some k → Reach g goals p k
  goal : ∀ p ∈ goals, 0 < cost g p → F p = some 0
structure Part (g : Gd) (F F' : Fn) (S : P → P → Prop) : Prop where
  le : Le F F'
  rel : ∀ p q, S p q → ∀ j, F q = some j → ∃ j', F' p = some j' ∧ j' ≤ j + cost g q
def Round (g : Gd) (F F' : Fn) : Prop := Part g F F' fun p q => 0 < cost g p ∧ q ∈ bes g p
theorem Part.start (g : Gd) (F : Fn) : Part g F F fun _ _ => False := ⟨Le.refl F, fun _ _ h => h.elim⟩
theorem Part.imp {g : Gd} {F F' : Fn} {S S' : P → P → Prop} (h : Part g F F' S) (k : ∀ p q, S' p q → S p q) : Part g F F' S' :=
  ⟨h.le, fun p q s => h.rel p q (k p q s)⟩
theorem Part.more {g : Gd} {F F' F2 : Fn} {S : P → P → Prop} (h : Part g F F' S) (l : Le F' F2) {p q : P}
    (r : ∀ j, F' q = some j → ∃ j', F2 p = some j' ∧ j' ≤ j + cost g q) : Part g F F2 fun a b => S a b ∨ (a = p ∧ b = q) :=
  ⟨h.le.trans l, fun a b s j e => by
    rcases s with s | ⟨rfl, rfl⟩
    · obtain ⟨j1, e1, l1⟩ := h.rel a b s j e
      obtain ⟨j2, e2, l2⟩ := l a j1 e1
      exact ⟨j2, e2, Int.le_trans l2 l1⟩
    · obtain ⟨j1, e1, l1⟩ := h.le b j e
      obtain ⟨j2, e2, l2⟩ := r j1 e1
      exact ⟨j2, e2, by omega⟩⟩

/-- a least bad pair is mended by one round -/
theorem mend {g : Gd} {goals : List P} {F F' : Fn} (hf : Far g goals F) (hr : Round g F F') :
    ∀ (n : Nat) (p : P) (k : Int), k.toNat = n → Reach g goals p k → (¬ ∃ j, F p = some j ∧ j ≤ k) →
      ∃ p, 0 < cost g p ∧ ¬ Fin g goals F p ∧ Fin g goals F' p := by
  intro n
  induction n using Nat.strongRecOn with
  | ind n ih =>
    intro p k hk r bad
    by_cases less : ∃ q k', k' < k ∧ Reach g goals q k' ∧ ¬ ∃ j, F q = some j ∧ j ≤ k'
    · obtain ⟨q, k', h1, h2, h3⟩ := less
      have := h2.nn
      exact ih k'.toNat (by omega) q k' rfl h2 h3
    · have good : ∀ q k', k' < k → Reach g goals q k' → ∃ j, F q = some j ∧ j ≤ k' := fun q k' h1 h2 =>
        Classical.byContradiction fun h3 => less ⟨q, k', h1, h2, h3⟩
      refine ⟨p, r.op, fun h => bad (h k r), ?_⟩
      have got : ∃ j', F' p = some j' ∧ j' ≤ k := by
        cases r with
        | goal h c => exact absurd ⟨0, hf.goal p h c, Int.le_refl 0⟩ bad
        | step c nq h =>
          rename_i q k0
          have c2 := h.op
          obtain ⟨j, e, l⟩ := good q k0 (by omega) h
          obtain ⟨j', e', l'⟩ := hr.rel p q ⟨c, mem_bes.mpr ⟨nq, c2⟩⟩ j e
          exact ⟨j', e', by omega⟩
      intro k2 r2
      by_cases h : k2 < k
      · obtain ⟨j, e, l⟩ := good p k2 h r2
        obtain ⟨j', e', l'⟩ := hr.le p j e
        exact ⟨j', e', by omega⟩
      · obtain ⟨j', e', l'⟩ := got
        exact ⟨j', e', by omega⟩

/-! ### counting -/
theorem count_le {α : Type} {a b : α → Bool} : ∀ {l : List α}, (∀ x ∈ l, a x = true → b x = true) → l.countP a ≤ l.countP b
  | [], _ => Nat.le_refl 0
  | x :: l, h => by
    have ih := count_le (l := l) fun y hy => h y (List.mem_cons_of_mem _ hy)
    have hx := h x List.mem_cons_self
    rw [List.countP_cons, List.countP_cons]
    cases ha : a x with
    | true =>
      rw [hx ha]
      simp only [if_true]
      omega
    | false =>
      simp only [Bool.false_eq_true, if_false]
      omega
theorem count_lt {α : Type} {a b : α → Bool} : ∀ {l : List α}, (∀ x ∈ l, a x = true → b x = true) → (∃ x ∈ l, a x = false ∧ b x = true) → l.countP a + 1 ≤ l.countP b
  | [], _, h => by
    obtain ⟨x, h, _⟩ := h
    cases h
  | x :: l, h, e => by
    have hl : ∀ y ∈ l, a y = true → b y = true := fun y hy => h y (List.mem_cons_of_mem _ hy)
    have hx := h x List.mem_cons_self
    rw [List.countP_cons, List.countP_cons]
    obtain ⟨y, my, ay, by'⟩ := e
    rcases List.mem_cons.mp my with rfl | my
    · have := count_le hl
      rw [ay, by']
      simp only [Bool.false_eq_true, if_false, if_true]
      omega
    · have ih := count_lt hl ⟨y, my, ay, by'⟩
      cases ha : a x with
      | true =>
        rw [hx ha]
        simp only [if_true]
        omega
      | false =>
        simp only [Bool.false_eq_true, if_false]
        omega

def cl (g : Gd) : List P := (List.range g.n).map (cell g)
theorem cl_len (g : Gd) : (cl g).length = g.n := by
  unfold cl
  rw [List.length_map, List.length_range]
theorem mem_cl {g : Gd} {p : P} (h : inG g p) : p ∈ cl g := List.mem_map.mpr ⟨idx g p, List.mem_range.mpr (idx_lt h), cell_idx h⟩
noncomputable def fin (g : Gd) (goals : List P) (F : Fn) (p : P) : Bool := @decide (Fin g goals F p) (Classical.propDecidable _)
theorem fin_iff {g : Gd} {goals : List P} {F : Fn} {p : P} : fin g goals F p = true ↔ Fin g goals F p := by
  unfold fin
  exact @decide_eq_true_iff _ (Classical.propDecidable _)
theorem fin_no {g : Gd} {goals : List P} {F : Fn} {p : P} (h : ¬ Fin g goals F p) : fin g goals F p = false := by
  cases e : fin g goals F p with
  | true => exact absurd (fin_iff.mp e) h
  | false => rfl
noncomputable def cnt (g : Gd) (goals : List P) (F : Fn) : Nat := (cl g).countP (fin g goals F)
def All (g : Gd) (goals : List P) (F : Fn) : Prop := ∀ p, Fin g goals F p
theorem round {g : Gd} {goals : List P} {F F' : Fn} (hf : Far g goals F) (hr : Round g F F') : All g goals F ∨ cnt g goals F + 1 ≤ cnt g goals F' := by
  by_cases h : All g goals F
  · exact .inl h
  · obtain ⟨p, hp⟩ := Classical.not_forall.mp h
    obtain ⟨k, hk⟩ := Classical.not_forall.mp hp
    have r : Reach g goals p k := Classical.byContradiction fun z => hk fun q => absurd q z
    have bad : ¬ ∃ j, F p = some j ∧ j ≤ k := fun z => hk fun _ => z
    obtain ⟨q, c, n, y⟩ := mend hf hr _ p k rfl r bad
    exact .inr (count_lt (fun x _ e => fin_iff.mpr ((fin_iff.mp e).mono hr.le)) ⟨q, mem_cl (cost_in c), fin_no n, fin_iff.mpr y⟩)
/-- at the break: a round that changes nothing -/
theorem all_break {g : Gd} {goals : List P} {F : Fn} (hf : Far g goals F) (hr : Round g F F) : All g goals F := by
  rcases round hf hr with h | h
  · exact h
  · omega
def Prog (g : Gd) (goals : List P) (t : Nat) (F : Fn) : Prop := All g goals F ∨ t ≤ cnt g goals F
theorem prog0 (g : Gd) (goals : List P) (F : Fn) : Prog g goals 0 F := .inr (Nat.zero_le _)
theorem Prog.next {g : Gd} {goals : List P} {t : Nat} {F F' : Fn} (h : Prog g goals t F) (hf : Far g goals F) (hr : Round g F F') : Prog g goals (t + 1) F' := by
  rcases h with h | h
  · exact .inl fun p => (h p).mono hr.le
  · rcases round hf hr with z | z
    · exact .inl fun p => (z p).mono hr.le
    · exact .inr (by omega)
theorem Prog.all {g : Gd} {goals : List P} {F : Fn} (h : Prog g goals g.n F) : All g goals F := by
  rcases h with h | h
  · exact h
  · have e : (cl g).countP (fin g goals F) = (cl g).length := by
      have h1 := List.countP_le_length (p := fin g goals F) (l := cl g)
      have h2 := cl_len g
      have h3 : g.n ≤ (cl g).countP (fin g goals F) := h
      omega
    have m := List.countP_eq_length.mp e
    intro p k r
    exact fin_iff.mp (m p (mem_cl (cost_in r.op))) k r

/-! ### one step of a round -/
def setF (F : Fn) (p : P) (k : Int) : Fn := fun q => if q = p then some k else F q
theorem setF_same (F : Fn) (p : P) (k : Int) : setF F p k p = some k := if_pos rfl
theorem le_setF {F : Fn} {p : P} {k : Int} (h : ∀ j, F p = some j → k ≤ j) : Le F (setF F p k) := fun q j e => by
  by_cases hq : q = p
  · subst hq
    exact ⟨k, setF_same F q k, h j e⟩
  · exact ⟨j, by unfold setF; rw [if_neg hq]; exact e, Int.le_refl j⟩
theorem far_setF {g : Gd} {goals : List P} {F : Fn} {p q : P} {k : Int} (h : Far g goals F) (c : 0 < cost g p) (n : q ∈ nb p) (e : F q = some k)
    (hg : p ∈ goals → False) : Far g goals (setF F p (k + cost g q)) where
  sound := fun a j ea => by
    by_cases ha : a = p
    · subst ha
      rw [setF_same] at ea
      cases ea
      exact .step c n (h.sound q k e)
    · unfold setF at ea
      rw [if_neg ha] at ea
      exact h.sound a j ea
  goal := fun a ha ca => by
    have hn : a ≠ p := fun z => hg (z ▸ ha)
    unfold setF
    rw [if_neg hn]
    exact h.goal a ha ca

/-! ### fields -/
def minL : List Int → Option Int
  | [] => none
  | x :: r => some (r.foldl (fun a b => if b < a then b else a) x)
theorem fold_min : ∀ (r : List Int) (x : Int), (r.foldl (fun a b => if b < a then b else a) x ∈ x :: r) ∧ ∀ y ∈ x :: r, r.foldl (fun a b => if b < a then b else a) x ≤ y
  | [], x => ⟨List.mem_cons_self, fun y hy => by rcases List.mem_cons.mp hy with rfl | h; exact Int.le_refl _; cases h⟩
  | z :: r, x => by
    rw [List.foldl_cons]
    by_cases h : z < x
    · rw [if_pos h]
      obtain ⟨a, b⟩ := fold_min r z
      refine ⟨List.mem_cons_of_mem _ a, fun y hy => ?_⟩
      rcases List.mem_cons.mp hy with rfl | hy
      · exact Int.le_trans (b z List.mem_cons_self) (Int.le_of_lt h)
      · exact b y hy
    · rw [if_neg h]
      obtain ⟨a, b⟩ := fold_min r x
      refine ⟨?_, fun y hy => ?_⟩
      · rcases List.mem_cons.mp a with e | e
        · rw [e]; exact List.mem_cons_self
        · exact List.mem_cons_of_mem _ (List.mem_cons_of_mem _ e)
      · rcases List.mem_cons.mp hy with rfl | hy
        · exact b y List.mem_cons_self
        · rcases List.mem_cons.mp hy with rfl | hy
          · exact Int.le_trans (b x List.mem_cons_self) (by omega)
          · exact b y (List.mem_cons_of_mem _ hy)
theorem minL_of {l : List Int} {m : Int} (h : m ∈ l) (k : ∀ y ∈ l, m ≤ y) : minL l = some m := by
  cases l with
  | nil => cases h
  | cons x r =>
    obtain ⟨a, b⟩ := fold_min r x
    have h1 := b m h
    have h2 := k _ a
    show some _ = some m
    congr 1
    omega
theorem minL_some {l : List Int} {m : Int} (h : minL l = some m) : m ∈ l ∧ ∀ y ∈ l, m ≤ y := by
  cases l with
  | nil => cases h
  | cons x r =>
    have e : r.foldl (fun a b => if b < a then b else a) x = m := Option.some.inj h
    rw [← e]
    exact fold_min r x
theorem minL_none {l : List Int} (h : minL l = none) : l = [] := by
  cases l with
  | nil => rfl
  | cons x r => cases h
theorem minL_nil {l : List Int} (h : l = []) : minL l = none := by rw [h]; rfl

def told (g : Gd) (f : Fn) (p : P) : List Int := (bes g p).filterMap fun q => (f q).map fun k => cost g q + k
theorem mem_told {g : Gd} {f : Fn} {p : P} {x : Int} : x ∈ told g f p ↔ ∃ q k, q ∈ bes g p ∧ f q = some k ∧ x = cost g q + k := by
  unfold told
  rw [List.mem_filterMap]
  constructor
  · rintro ⟨q, hq, e⟩
    obtain ⟨k, ek, ex⟩ := Option.map_eq_some_iff.mp e
    exact ⟨q, k, hq, ek, ex.symm⟩
  · rintro ⟨q, k, hq, ek, ex⟩
    exact ⟨q, hq, by rw [ek, ex]; rfl⟩
def due (g : Gd) (f : Fn) (p : P) : Option Int := if cost g p = 0 then none else minL (told g f p)
def want (g : Gd) (goals : List P) (f : Fn) (p : P) : Option Int := if p ∈ goals ∧ 0 < cost g p then some 0 else due g f p
def look (g : Gd) (fs : List (Option Int)) : Fn := fun p => (fs[idx g p]?).getD none
def Good (g : Gd) (goals : List P) (fs : List (Option Int)) : Prop :=
  fs.length = g.n ∧ (∀ k, some k ∈ fs → 0 ≤ k) ∧ ∀ i, i < g.n → fs[i]? = some (want g goals (look g fs) (cell g i))

theorem told_congr {g : Gd} {f h : Fn} {p : P} (e : ∀ q, inG g q → f q = h q) : told g f p = told g h p := by
  unfold told
  have z : ∀ l : List P, (∀ q ∈ l, inG g q) → (l.filterMap fun q => (f q).map fun k => cost g q + k) = l.filterMap fun q => (h q).map fun k => cost g q + k := by
    intro l
    induction l with
    | nil => intro _; rfl
    | cons q l ih =>
      intro hl
      rw [List.filterMap_cons, List.filterMap_cons, e q (hl q List.mem_cons_self), ih fun x hx => hl x (List.mem_cons_of_mem _ hx)]
  exact z _ fun q hq => cost_in (mem_bes.mp hq).2
theorem want_congr {g : Gd} {goals : List P} {f h : Fn} {p : P} (e : ∀ q, inG g q → f q = h q) : want g goals f p = want g goals h p := by
  unfold want due
  rw [told_congr e]

section
variable {g : Gd} {goals : List P} {F : Fn}
/-- the distance meets its own due -/
theorem far_want (hf : Far g goals F) (ha : All g goals F) (p : P) : F p = want g goals F p := by
  unfold want
  by_cases hg : p ∈ goals ∧ 0 < cost g p
  · rw [if_pos hg]
    exact hf.goal p hg.1 hg.2
  · rw [if_neg hg]
    unfold due
    by_cases hc : cost g p = 0
    · rw [if_pos hc]
      cases e : F p with
      | none => rfl
      | some k =>
        have := (hf.sound p k e).op
        omega
    · rw [if_neg hc]
      have hc' : 0 < cost g p := by
        have := cost_nn g p
        omega
      cases e : F p with
      | none =>
        refine (minL_nil ?_).symm
        cases et : told g F p with
        | nil => rfl
        | cons x r =>
          obtain ⟨q, k, hq, ek, _⟩ := mem_told.mp (show x ∈ told g F p by rw [et]; exact List.mem_cons_self)
          obtain ⟨j, ej, _⟩ := ha p _ (.step hc' (mem_bes.mp hq).1 (hf.sound q k ek))
          rw [e] at ej
          cases ej
      | some k =>
        refine (minL_of (mem_told.mpr ?_) fun y hy => ?_).symm
        · have r := hf.sound p k e
          cases r with
          | goal h c => exact absurd ⟨h, c⟩ hg
          | step c n h =>
            rename_i q k0
            obtain ⟨j, ej, lj⟩ := ha q k0 h
            have h2 := hf.sound q j ej
            obtain ⟨j2, ej2, lj2⟩ := ha p _ (.step c n h2)
            rw [e] at ej2
            have e2 := Option.some.inj ej2
            exact ⟨q, j, mem_bes.mpr ⟨n, h.op⟩, ej, by omega⟩
        · obtain ⟨q, k1, hq, ek, ey⟩ := mem_told.mp hy
          obtain ⟨j, ej, lj⟩ := ha p _ (.step hc' (mem_bes.mp hq).1 (hf.sound q k1 ek))
          rw [e] at ej
          have e2 := Option.some.inj ej
          omega

theorem look_at {fs : List (Option Int)} {i : Nat} {x : Option Int} (h : fs[i]? = some x) : look g fs (cell g i) = x := by
  unfold look
  rw [idx_cell, h]
  rfl
theorem look_map (hw : 1 ≤ g.w) {p : P} (h : inG g p) : look g ((cl g).map F) p = F p := by
  unfold look cl
  rw [List.map_map, List.getElem?_map, List.getElem?_range (idx_lt h)]
  show F (cell g (idx g p)) = F p
  rw [cell_idx h]

/-- what passes is the distance -/
theorem good_sound {fs : List (Option Int)} (h : Good g goals fs) : ∀ (n : Nat) (p : P) (k : Int), k.toNat = n → inG g p → look g fs p = some k → Reach g goals p k := by
  obtain ⟨hl, hp, hi⟩ := h
  have nn : ∀ q j, inG g q → look g fs q = some j → 0 ≤ j := fun q j hq e => by
    refine hp j ?_
    unfold look at e
    have hlt : idx g q < fs.length := by rw [hl]; exact idx_lt hq
    rw [List.getElem?_eq_getElem hlt] at e
    have e' : fs[idx g q] = some j := e
    rw [← e']
    exact List.getElem_mem hlt
  intro n
  induction n using Nat.strongRecOn with
  | ind n ih =>
    intro p k hk hin e
    have e1 := hi (idx g p) (idx_lt hin)
    rw [cell_idx hin] at e1
    have e2 : look g fs p = want g goals (look g fs) p := by
      show (fs[idx g p]?).getD none = _
      rw [e1]
      rfl
    rw [e] at e2
    unfold want at e2
    by_cases hg : p ∈ goals ∧ 0 < cost g p
    · rw [if_pos hg] at e2
      cases e2
      exact .goal hg.1 hg.2
    · rw [if_neg hg] at e2
      unfold due at e2
      by_cases hc : cost g p = 0
      · rw [if_pos hc] at e2
        cases e2
      · rw [if_neg hc] at e2
        have hc' : 0 < cost g p := by
          have := cost_nn g p
          omega
        obtain ⟨m, _⟩ := minL_some e2.symm
        obtain ⟨q, j, hq, ej, ek⟩ := mem_told.mp m
        obtain ⟨hq1, hq2⟩ := mem_bes.mp hq
        have hqi := cost_in hq2
        have := nn q j hqi ej
        have r := ih j.toNat (by omega) q j rfl hqi ej
        have ek' : k = j + cost g q := by omega
        rw [ek']
        exact .step hc' hq1 r
theorem good_least {fs : List (Option Int)} (h : Good g goals fs) {p : P} {k : Int} (r : Reach g goals p k) : ∃ j, look g fs p = some j ∧ j ≤ k := by
  obtain ⟨hl, hp, hi⟩ := h
  have at_ : ∀ p, inG g p → look g fs p = want g goals (look g fs) p := fun p hin => by
    have e1 := hi (idx g p) (idx_lt hin)
    rw [cell_idx hin] at e1
    show (fs[idx g p]?).getD none = _
    rw [e1]
    rfl
  induction r with
  | goal h c =>
    rename_i p
    refine ⟨0, ?_, Int.le_refl 0⟩
    rw [at_ p (cost_in c)]
    unfold want
    rw [if_pos ⟨h, c⟩]
  | step c n h ih =>
    rename_i p q k
    obtain ⟨j, ej, lj⟩ := ih
    rw [at_ p (cost_in c)]
    unfold want
    by_cases hg : p ∈ goals ∧ 0 < cost g p
    · rw [if_pos hg]
      have h1 := h.nn
      have h2 := h.op
      exact ⟨0, rfl, by omega⟩
    · rw [if_neg hg]
      unfold due
      rw [if_neg (by omega)]
      have mt : cost g q + j ∈ told g (look g fs) p := mem_told.mpr ⟨q, j, mem_bes.mpr ⟨n, h.op⟩, ej, rfl⟩
      cases em : minL (told g (look g fs) p) with
      | none =>
        rw [minL_none em] at mt
        cases mt
      | some m =>
        refine ⟨m, rfl, ?_⟩
        have := (minL_some em).2 _ mt
        omega
/-- THE PLAIN LAW: what passes is the row of the distances, and no other -/
theorem good_iff (ok : g.Ok) (hf : Far g goals F) (ha : All g goals F) (fs : List (Option Int)) : Good g goals fs ↔ fs = (cl g).map F := by
  constructor
  · intro h
    have one : ∀ p, inG g p → look g fs p = F p := fun p hin => by
      cases e : look g fs p with
      | none =>
        cases e2 : F p with
        | none => rfl
        | some k =>
          obtain ⟨j, ej, _⟩ := good_least h (hf.sound p k e2)
          rw [e] at ej
          cases ej
      | some k =>
        have r := good_sound h _ p k rfl hin e
        obtain ⟨j, ej, lj⟩ := ha p k r
        obtain ⟨j2, ej2, lj2⟩ := good_least h (hf.sound p j ej)
        rw [e] at ej2
        have e3 := Option.some.inj ej2
        rw [ej]
        congr 1
        omega
    refine List.ext_getElem? fun i => ?_
    by_cases hi : i < g.n
    · have hc := cell_in ok.w1 hi
      have e1 := h.2.2 i hi
      have e2 := look_at (g := g) e1
      rw [one _ hc] at e2
      rw [e1, ← e2]
      unfold cl
      rw [List.map_map, List.getElem?_map, List.getElem?_range hi]
      rfl
    · rw [List.getElem?_eq_none (by rw [h.1]; omega), List.getElem?_eq_none (by rw [List.length_map, cl_len]; omega)]
  · rintro rfl
    refine ⟨by rw [List.length_map, cl_len], fun k hk => ?_, fun i hi => ?_⟩
    · obtain ⟨p, _, e⟩ := List.mem_map.mp hk
      exact (hf.sound p k e).nn
    · have hc := cell_in ok.w1 hi
      rw [want_congr fun q hq => look_map ok.w1 hq, ← far_want hf ha]
      unfold cl
      rw [List.map_map, List.getElem?_map, List.getElem?_range hi]
      rfl
end
end Kf
/-! What the walk of every def of this law leans on: the text by places, the top's facts, three further rules. -/
namespace Kf
open PySem L2
/-! ### the text by places -/
def top (i : Nat) : Stmt := PySem.Challenge.pw_alikeplay_k83_whole_any_field.main.body.getD i (.Pass ⟨0, 0, 0, 0⟩)
abbrev sWhole3 : Stmt := top 7
abbrev sGrid : Stmt := top 9
abbrev sCheckGrid : Stmt := top 10
abbrev sWhole1 : Stmt := top 12
abbrev sBetween : Stmt := top 14
abbrev sInit : Stmt := inClass (top 19) 0
abbrev sCell : Stmt := inClass (top 19) 1
abbrev sIndex : Stmt := inClass (top 19) 2
abbrev sIsCell : Stmt := inClass (top 19) 3
abbrev sCost : Stmt := inClass (top 19) 4
abbrev sBeside : Stmt := inClass (top 19) 5
abbrev sCheckGoals : Stmt := top 20
abbrev sDueAt : Stmt := top 21
abbrev sPasses : Stmt := top 22
abbrev sIsField : Stmt := top 23
abbrev sStream : Stmt := top 25
abbrev sNext : Stmt := top 26
abbrev sIsInt : Stmt := top 27
abbrev sEqual : Stmt := top 34
abbrev sLawGrid : Stmt := top 35
abbrev sCells : Stmt := top 36
abbrev sLawCost : Stmt := top 37
abbrev sLawBeside : Stmt := top 38
abbrev sDist : Stmt := top 39
abbrev sPlace : Stmt := top 41
abbrev sTurned : Stmt := top 42
abbrev sOther : Stmt := top 43
abbrev sLaw : Stmt := top 44

/-- the built-in names that the text calls and no statement of its top binds -/
structure Bi (mg : Str → Option Value) : Prop where
  isi : mg "isinstance" = none
  int : mg "int" = none
  bool : mg "bool" = none
  str : mg "str" = none
  tuple : mg "tuple" = none
  list : mg "list" = none
  len : mg "len" = none
  all : mg "all" = none
  range : mg "range" = none
  min : mg "min" = none
  abs : mg "abs" = none
  enum : mg "enumerate" = none

/-! ### two further rules -/
section
variable {X : Cx}
/-- o.f as one of the targets of an unpacking -/
def gFld (K : PySem.W.Frag) (ta : TE) (f : Str) : TG := fun v σ H Q => ta σ H fun x H1 => ∃ a C dx fs, x = .ref a ∧ H1 a = some (.ins C dx fs) ∧ Cls K C ∧ NoAttr K C f ∧ fs.length < 1000 ∧ Q σ (upd H1 a (.ins C dx (putF f v fs)))
theorem pg_fld {o : Expr} {ta : TE} {f : Str} {pos : Pos} (ho : PE X o ta) : PG X (.Attribute o f pos) (gFld X.K ta f) := by
  refine ⟨fun pins s σ H v u Q inv rel hq => ?_⟩
  unfold assign
  refine wpAny_bind (wpAny_holding (thn (ho.run pins s σ H _ inv hq) fun ov s1 got => ?_))
  obtain ⟨x, H1, inv1, rx, a, C, dx, fs, ex, ea, c, n, l, q⟩ := got
  subst ex
  obtain rfl : ov = Value.ref a := rx
  refine wpAny_bind (wpAny_standAt (wpAny_bind (wpAny_holding ?_)))
  exact setattr_ok inv1 ea c n l rel fun s3 inv3 => wpAny_release ⟨σ, _, inv3, q⟩

/-- what is walked is a list or a tuple -/
def iSeq (tl : TE) : TI := fun σ H R => tl σ H fun x H1 => ∃ (a : Addr) (xs : List V), x = .ref a ∧ (H1 a = some (.tup xs) ∨ H1 a = some (.lst xs)) ∧ ∀ J, Walk J xs.length (fun H' => H' a = H1 a) (YAt xs) → R J H1
theorem pi_seq {tg l : Expr} {tl : TE} (hl : PE X l tl) : PI X tg l (iSeq tl) := by
  refine ⟨fun pins s σ H R inv hq => ?_⟩
  refine thn (hl.run pins s σ H _ inv hq) fun v s1 got => ?_
  obtain ⟨x, H1, inv1, rx, a, xs, ex, hx, q⟩ := got
  subst ex
  obtain rfl : v = Value.ref a := rx
  have fp : ∀ b ∈ [s1.heap.objs.size], FpOk X pins H1 b := fun b hb => by
    obtain rfl : b = s1.heap.objs.size := by simpa using hb
    exact inv1.fpOk (Nat.le_refl _) (inv1.hok.fresh (Nat.le_refl _))
  rcases hx with hx | hx
  · have sq : SqT X.K H1 a xs := SqT.of hx
    obtain ⟨its, rv, p, hz⟩ := inv1.tuple sq
    have q' := q (Itt X.K a) (walk_tup.mono (fun H' e => SqT.of (e.trans hx)) fun i H2 x H3 _ _ y => y)
    refine wpAny_pyIter_tuple (show s1.heap.IsTuple a its.toArray from p) ⟨_, [s1.heap.objs.size], _, _, H1, rfl, inv1.kept (t' := s1.toks) (fun b o e => Heap.get?_push_of_some _ e), turn_tuple a _, ?_, fp, q'⟩
    exact ⟨_, Heap.get?_push_size _ rfl, rfl, rfl⟩
  · have sq : SqL X.K H1 a xs := SqL.of hx
    obtain ⟨its, rv, p, hz⟩ := inv1.list sq
    have q' := q (Itl X.K a) (walk_list.mono (fun H' e => SqL.of (e.trans hx)) fun i H2 x H3 _ _ y => y)
    refine wpAny_pyIter_list p.isList ⟨_, [s1.heap.objs.size], _, _, H1, rfl, inv1.kept (t' := s1.toks) (fun b o e => Heap.get?_push_of_some _ e), turn_list a _, ?_, fp, q'⟩
    exact ⟨_, Heap.get?_push_size _ rfl, rfl, rfl⟩
end
end Kf
/-! enumerate(t) of a tuple, walked by a for. -/
namespace Kf
open PySem L2
theorem nat_ne {n a : Nat} (h : a < n) : n + 1 ≠ a := by omega
/-- enumerate.__new__ of one argument, whatever its iterator is -/
theorem meets_enum1 {v : Value} {ob : Obj} {hold : Heap → Prop} (beg : Begins v ob hold) :
    Meets (Builtin.«enumerate.__new__» ⟨[.type "enumerate", v], []⟩) (fun _ R s => hold s.heap ∧
      R (.ok (.ret (.ref (s.heap.push ob).objs.size))) { s with heap := (s.heap.push ob).push { cls := .type "enumerate", data := .fields #[.none, .bool false, .ref s.heap.objs.size, rawInt 0, .none, .none] } }) :=
  .of_wp fun pr wo ar R s both => by
    obtain ⟨hp, gn, dr, tk, os⟩ := s
    obtain ⟨h1, fin⟩ := both
    have hsub := sub_enumerate
    have it1 : ∀ {A' : Around} {E : Value → Shared → Prop} {Q : Value → Shared → Prop}, Q (.ref hp.objs.size) ⟨hp.push ob, gn, dr, tk, os⟩ → wpAny (model pr wo) A' (pyIter v) Q E ⟨hp, gn, dr, tk, os⟩ :=
      fun q => beg.iter pr wo _ _ ⟨hp, gn, dr, tk, os⟩ _ h1 q
    wp_walk using it1
    refine wpAny_stack_any fun stk => wpAny_pure ?_
    split
    · rename_i c _ _ _ _ _
      cases (c == Value.type "enumerate")
      · wp_walk using it1
        exact ⟨_, rfl, fin⟩
      · wp_walk using it1
        exact ⟨_, rfl, fin⟩
    · wp_walk using it1
      exact ⟨_, rfl, fin⟩
theorem call_enum1 {prog : Program} {w : World} {A : Around} {E : Value → Shared → Prop} {s : Shared} {v : Value} {ob : Obj} {hold : Heap → Prop} {Q : Value → Shared → Prop} (beg : Begins v ob hold) (h1 : hold s.heap)
    (k : ∀ h', IsEnum h' (s.heap.objs.size + 1) s.heap.objs.size 0 .none → h'.get? s.heap.objs.size = some ob →
      (∀ b o, s.heap.get? b = some o → h'.get? b = some o) → Q (.ref (s.heap.objs.size + 1)) { s with heap := h' }) : wpAny (model prog w) A (call (.type "enumerate") [v]) Q E s := by
  refine callType_new F.called_enumerate (by decide) (F.typeCall_enumerate_1 _) (F.newCall_enumerate_1 _) (fun obj => F.args_object_init_2 obj _)
    F.entry_enumerate_new (meets_enum1 beg) ⟨h1, ?_⟩
  have sz : (s.heap.push ob).objs.size = s.heap.objs.size + 1 := Heap.size_push ..
  show _ ∧ _
  rw [sz]
  have en : IsEnum ((s.heap.push ob).push { cls := .type "enumerate", data := .fields #[.none, .bool false, .ref s.heap.objs.size, rawInt 0, .none, .none] }) (s.heap.objs.size + 1) s.heap.objs.size 0 .none := by
    have z := Heap.get?_push_size (s.heap.push ob) (o := { cls := .type "enumerate", data := .fields #[.none, .bool false, .ref s.heap.objs.size, rawInt 0, .none, .none] }) rfl
    rw [sz] at z
    exact z
  exact ⟨⟨_, en, rfl⟩, k _ en (Heap.get?_push_of_some _ (Heap.get?_push_size _ beg.free)) fun b o x => Heap.get?_push_of_some _ (Heap.get?_push_of_some _ x)⟩

/-- the tuple at a, each item in a new pair with its number -/
def Iet (K : PySem.W.Frag) (a : Addr) : It :=
  ⟨fun i H => ∃ (xs : List V) (x : V), SqT K H a xs ∧ xs[i]? = some x,
    fun i H v H' => ∃ T x, v = .ref T ∧ H T = none ∧ H' = upd H T (.tup [.int (i : Nat), x]) ∧ ∀ xs, SqT K H a xs → xs[i]? = some x,
    fun i H => ∃ xs : List V, SqT K H a xs ∧ xs.length = i⟩
theorem tup_ne {h : Heap} {it a : Addr} {i : Nat} {its : Array Value} (x : h.IsTupleIter it a i) (p : h.IsTuple a its) : a ≠ it := by
  rintro rfl
  obtain ⟨o, e1, c1, _⟩ := x
  obtain ⟨o2, e2, c2, _⟩ := p
  rw [e1] at e2
  cases e2
  rw [c1] at c2
  injection c2 with z
  exact absurd z (by decide)
theorem turn_enumT {P : Program} {w : World} {K : PySem.W.Frag} {elts : List Expr} {kk : Nat} {tpos : Pos} (a e it : Addr) :
    Turn P w K (.Tuple elts kk tpos) (Iet K a) [e, it] e (fun i h => (∃ old, IsEnum h e it ((i : Nat) : Int) old) ∧ h.IsTupleIter it a i ∧ e ≠ it ∧ e ≠ a) where
  mem := List.mem_cons_self
  obj := fun i h st b hb => by
    obtain ⟨⟨old, he⟩, ⟨o, ho, hc, hd⟩, _⟩ := st
    rcases List.mem_cons.mp hb with rfl | hb
    · exact ⟨_, he, fun v q => nomatch q⟩
    · obtain rfl := List.mem_singleton.mp hb
      exact ⟨o, ho, fun v q => by rw [hd] at q; cases q⟩
  keep := fun i h h' st k => by
    obtain ⟨⟨old, he⟩, hi, hne⟩ := st
    exact ⟨⟨old, k e List.mem_cons_self _ he⟩, hi.at fun o q => k it (List.mem_cons_of_mem _ List.mem_cons_self) o q, hne⟩
  item := by
    intro X hP hw hK hc i pins s σ H E inv hf st hg
    subst hP hw hK
    obtain ⟨⟨old, he⟩, hit, hne, hnea⟩ := st
    obtain ⟨xs, x, hq, hx⟩ := hg
    obtain ⟨its, rv, p, hz⟩ := inv.tuple hq
    have p' : s.heap.IsTuple a its.toArray := p
    obtain ⟨u, hu, ru⟩ := rv.get hx
    have hel : e < s.heap.objs.size := Heap.lt_size he
    have hil : it < s.heap.objs.size := by
      obtain ⟨_, q, _⟩ := hit
      exact Heap.lt_size q
    have hlt : i < its.toArray.size := by
      have := (List.getElem?_eq_some_iff.mp hu).1
      simpa using this
    refine wpAny_pyNext_enum_itemD (Draws.tuple (prog := X.prog) (w := X.w) (A := X.A.in1) (show X.A.in1.handled = none from inv.ok.hd hc) it a (tup_ne hit p') its.toArray) he ⟨hit, p'⟩ hlt hne (by simp [hne, hnea]) fun x' h' tk hx' ho st' hT hsz hk => ?_
    have exu : x' = u := by
      have z : its[i]? = some x' := by simpa using hx'
      rw [hu] at z
      exact (Option.some.inj z).symm
    subst exu
    refine ⟨_, rfl, wpAny_letOwnedTupleGo_enum (s := { s with heap := h', toks := tk + 1 }) ho fun h'' he' sb => ?_⟩
    have hT2 : h''.get? s.heap.objs.size = some { cls := .type "tuple", data := .seq #[.int i tk, x'] } := (sb.2 _ (Nat.ne_of_gt hel)).trans hT
    have new : ObjOk X.prog X.w (upd H s.heap.objs.size (.tup [.int (i : Nat), x])) h'' s.heap.objs.size (.tup [.int (i : Nat), x]) :=
      ⟨by show 2 ≤ sizeLine; decide, [.int i tk, x'], .cons ⟨tk, rfl⟩ (.cons ru .nil), ⟨_, hT2, rfl, _, rfl⟩⟩
    have inv1 : Inv X pins σ (upd H s.heap.objs.size (.tup [.int (i : Nat), x])) { s with heap := h'', toks := tk + 1 } :=
      inv.turnedNew (ch := [e, it]) (fun b ob hb q => by
        have n1 : b ≠ e := fun z => hb (by simp [z])
        have n2 : b ≠ it := fun z => hb (by simp [z])
        exact (sb.2 b n1).trans (hk b ob n1 n2 q)) hf (Nat.le_refl _) new
    refine ⟨.ref s.heap.objs.size, _, inv1, rfl, ⟨_, x, rfl, inv.hok.fresh (Nat.le_refl _), rfl, fun ys hy => by rw [inv.tuple_inj hy hq]; exact hx⟩,
      ⟨⟨x', ?_⟩, st'.1.at fun o q => (sb.2 it (Ne.symm hne)).trans q, hne, hnea⟩, fun b hb => ?_⟩
    · have e1 : ((i + 1 : Nat) : Int) = (i : Int) + 1 := by omega
      rw [e1]
      exact he'
    · have hb' : b < s.heap.objs.size := by
        rcases List.mem_cons.mp hb with rfl | z
        · exact hel
        · obtain rfl := List.mem_singleton.mp z
          exact hil
      rw [upd_ne (Nat.ne_of_lt hb')]
      exact (hf b hb).1
  done := by
    intro X hP hw hK hc i pins s σ H E inv hf st hg
    subst hP hw hK
    obtain ⟨⟨old, he⟩, hit, hne, hnea⟩ := st
    obtain ⟨xs, hq, hx⟩ := hg
    obtain ⟨its, rv, p, hz⟩ := inv.tuple hq
    have p' : s.heap.IsTuple a its.toArray := p
    have en : its.toArray.size = i := by
      have := rv.length
      simp
      omega
    obtain ⟨f0, f1, f2, f3, f4, f5⟩ := hf it (List.mem_cons_of_mem _ List.mem_cons_self)
    subst en
    exact wpAny_pyNext_enum_endD (Draws.tuple (prog := X.prog) (w := X.w) (A := X.A.in1) (show X.A.in1.handled = none from inv.ok.hd hc) it a (tup_ne hit p') its.toArray) he ⟨hit, p'⟩ fun h' eb => ⟨rfl, inv.turned (t' := s.toks) (fun b o hb q => eb b o hb q) f0 f1 f3 f4 f5⟩
  self := fun A i s Q E st h => by
    obtain ⟨⟨_, he⟩, _⟩ := st
    exact wpAny_pyIter_enum he h
def iEnumT (K : PySem.W.Frag) (ta : TA) : TI := fun σ H R => ta σ H fun vs H1 => ∃ a xs, vs = [.ref a] ∧ SqT K H1 a xs ∧ R (Iet K a) H1
theorem pi_enumT {X : Cx} {e : Expr} {ta : TA} {p pos tpos : Pos} {elts : List Expr} {kk : Nat} (hg : Gl X "enumerate") (hm : X.mg "enumerate" = none) (ha : PA X [e] ta)
    (hs : starEach [e] X.env = [(false, eval e X.env)] := by rfl) : PI X (.Tuple elts kk tpos) (.Call (.Name "enumerate" p) [e] [] pos) (iEnumT X.K ta) := by
  refine ⟨fun pins s σ H R inv h => ?_⟩
  refine PyProof.Rows.Call_ (ld_blt inv hg hm PyProof.Rows.boot_enumerate (PyProof.Rows.callWith_type1 (thn (ha.run pos pins s σ H _ inv h) fun us s1 got => ?_) hs rfl))
  obtain ⟨vs, H1, inv1, r1, a, xs, ex, hq, q⟩ := got
  subst ex
  cases r1 with
  | cons r rr =>
    cases rr
    cases r
    obtain ⟨its, rv, p', hz⟩ := inv1.tuple hq
    have p2 : s1.heap.IsTuple a its.toArray := p'
    have ha' : a < s1.heap.objs.size := by
      obtain ⟨o, e1, _⟩ := p2
      exact Heap.lt_size e1
    refine call_enum1 (begins_tuple a its.toArray) p2 fun h' he hit hk => wpAny_pyIter_enum he ?_
    have inv2 : Inv X pins σ H1 { s1 with heap := h' } := inv1.kept (t' := s1.toks) hk
    have hne : s1.heap.objs.size + 1 ≠ a := nat_ne ha'
    refine ⟨s1.heap.objs.size + 1, [s1.heap.objs.size + 1, s1.heap.objs.size], _, _, H1, rfl, inv2, turn_enumT a (s1.heap.objs.size + 1) s1.heap.objs.size,
      ⟨⟨.none, he⟩, ⟨_, hit, rfl, rfl⟩, Nat.succ_ne_self _, hne⟩, fun b hb => ?_, q⟩
    have hle : s1.heap.objs.size ≤ b := by
      rcases List.mem_cons.mp hb with z | z
      · rw [z]
        exact Nat.le_add_right _ _
      · rw [List.mem_singleton.mp z]
        exact Nat.le_refl _
    exact inv1.fpOk hle (inv1.hok.fresh hle)
theorem walk_enumT {K : PySem.W.Frag} {a : Addr} {xs : List V} : Walk (Iet K a) xs.length (fun H => SqT K H a xs) (YPair (fun i => some (.int (i : Nat))) (fun i => xs[i]?)) where
  goes := fun i H hi h => ⟨xs, xs[i], h, List.getElem?_eq_getElem hi⟩
  stops := fun H h => ⟨xs, h, rfl⟩
  yields := fun i H v H' hi h y => by
    obtain ⟨T, x, ev, hT, eH, q⟩ := y
    exact ⟨T, .int (i : Nat), x, ev, hT, eH, rfl, q xs h⟩
end Kf
/-! How defs stand, how the grid and the object over it stand. -/
namespace Kf
open PySem L2
/-- a def of the top, found under a name -/
structure Df (K : PySem.W.Frag) (mg : Str → Option Value) (name x qual : Str) (st : Stmt) (ps : List Str) (f : Addr) (fd : FuncData) : Prop where
  F : Fun K x qual st f fd
  m : mg name = some (.ref f)
  b : Binds K fd ps []
/-- a method of the class at C -/
structure Mf (K : PySem.W.Frag) (C : Addr) (x qual : Str) (st : Stmt) (ps : List Str) (f : Addr) (fd : FuncData) : Prop where
  F : Fun K x qual st f fd
  M : Meth K C x f
  b : Binds K fd ps []
/-- the class -/
structure Ct (K : PySem.W.Frag) (mg : Str → Option Value) (C : Addr) : Prop where
  cl : Cls K C
  nC : NoAttr K C "columns"
  nR : NoAttr K C "rows"
  nS : NoAttr K C "signs"
  m : mg "Cells" = some (.ref C)
  mks : PySem.W.makesIn K C = true
  kc : PySem.W.keepIn K (.ref C) = true
/-- the constants of the top -/
structure Ks (mg : Str → Option Value) : Prop where
  signs : ∃ t, mg "SIGNS" = some (.str ".#^~" t)
  cells : ∃ t, mg "MOST_CELLS" = some (.int 40 t)
  goals : ∃ t, mg "MOST_GOALS" = some (.int 16 t)
  slow : ∃ t, mg "SLOW" = some (.int 3 t)
def gs (g : Gd) : Str := ⟨g.cs.toArray⟩
theorem gs_list (g : Gd) : (gs g).cps.toList = g.cs := rfl
theorem gs_len (g : Gd) : (gs g).length = g.cs.length := by
  show g.cs.toArray.size = g.cs.length
  exact List.size_toArray
theorem gs_size (g : Gd) : (gs g).cps.size = g.cs.length := List.size_toArray
def GridAt (H : Hp) (a : Addr) (g : Gd) : Prop := H a = some (.tup [.int g.w, .int g.r, .str (gs g)])
def kf (g : Gd) : List (Str × V) := [("columns", .int g.w), ("rows", .int g.r), ("signs", .str (gs g))]
theorem ne_cr : ¬ (("columns" : Str) = "rows") := by decide +kernel
theorem ne_cs : ¬ (("columns" : Str) = "signs") := by decide +kernel
theorem ne_rs : ¬ (("rows" : Str) = "signs") := by decide +kernel
theorem kf_put (g : Gd) : putF "signs" (.str (gs g)) (putF "rows" (.int g.r) (putF "columns" (.int g.w) [])) = kf g := by
  show (putF "signs" (.str (gs g)) (if ("columns" : Str) = "rows" then _ else (("columns" : Str), V.int g.w) :: [("rows", V.int g.r)])) = kf g
  rw [if_neg ne_cr]
  show (if ("columns" : Str) = "signs" then _ else (("columns" : Str), V.int g.w) :: (if ("rows" : Str) = "signs" then _ else (("rows" : Str), V.int g.r) :: [("signs", V.str (gs g))])) = kf g
  rw [if_neg ne_cs, if_neg ne_rs]
  rfl
theorem lk_cons {f h : Str} {v : V} {fs : List (Str × V)} : List.lookup f ((h, v) :: fs) = if f = h then some v else List.lookup f fs := by
  rw [List.lookup_cons]
  by_cases e : f = h
  · subst e
    rw [if_pos rfl, beq_self_eq_true]
  · rw [if_neg e, beq_eq_false_iff_ne.mpr e]
theorem kf_c (g : Gd) : (kf g).lookup ("columns" : Str) = some (.int g.w) := by
  unfold kf
  rw [lk_cons, if_pos rfl]
theorem kf_r (g : Gd) : (kf g).lookup ("rows" : Str) = some (.int g.r) := by
  unfold kf
  rw [lk_cons, if_neg (fun e => ne_cr e.symm), lk_cons, if_pos rfl]
theorem kf_s (g : Gd) : (kf g).lookup ("signs" : Str) = some (.str (gs g)) := by
  unfold kf
  rw [lk_cons, if_neg (fun e => ne_cs e.symm), lk_cons, if_neg (fun e => ne_rs e.symm), lk_cons, if_pos rfl]
theorem kf_no {m : Str} (g : Gd) (h1 : ¬ m = "columns") (h2 : ¬ m = "rows") (h3 : ¬ m = "signs") : (kf g).lookup m = none := by
  unfold kf
  rw [lk_cons, if_neg h1, lk_cons, if_neg h2, lk_cons, if_neg h3]
  rfl
/-- a Cells of the grid g -/
def KnAt (C : Addr) (H : Hp) (p : Addr) (g : Gd) : Prop := ∃ dx, H p = some (.ins C dx (kf g))
theorem Same.kn {C : Addr} {H H' : Hp} {p : Addr} {g : Gd} (s : Same H H') (h : KnAt C H p g) : KnAt C H' p g := by
  obtain ⟨dx, h⟩ := h
  exact ⟨dx, s _ _ h⟩
theorem same_new {H : Hp} {p : Addr} {o : HO} (h : H p = none) : Same H (upd H p o) := fun b x e => by
  rw [upd_ne (ne_of_none e h)]
  exact e
theorem same_at {H H' : Hp} {p : Addr} {o : HO} (s : Same H H') (h : H p = none) : Same H (upd H' p o) := fun b x e => by
  rw [upd_ne (ne_of_none e h)]
  exact s _ _ e
theorem Same.seqT {K : PySem.W.Frag} {H H' : Hp} {a : Addr} {xs : List V} (e : Same H H') (h : SqT K H a xs) : SqT K H' a xs := by
  rcases h with (h | ⟨o, h⟩) | h
  · exact .inl (.inl (e _ _ h))
  · exact .inl (.inr ⟨o, e _ _ h⟩)
  · exact .inr h
/-! ### isinstance, in short -/
section
variable {X : Cx} {K : PySem.W.Frag}
def rIs2 (K : PySem.W.Frag) : List V → Hp → VK → Prop := fun xs H Q => ∃ (x : V) (n T : String) (b : Bool), xs = [x, .ty n] ∧ TyX K H x (.type T) ∧ kitB T n = some b ∧ Q (.bl b) H
theorem call_is2 : CallR X (.builtin "isinstance") (rIs2 X.K) := fun pins s σ H xs us Q I r h => by
  obtain ⟨x, n, T, b, e, t, k, q⟩ := h
  exact call_isi pins s σ H xs us Q I r ⟨x, .ty n, .type T, .type n, b, e, .ty n, t, kit_ty k, q⟩
theorem pe_isT (T : String) {n : Str} {e : Expr} {te : TE} {p p2 pos : Pos} (hm : X.mg "isinstance" = none) (hn : X.mg n = none) (he : PE X e te) (hv : bootBuiltins n = some (.type T) := by decide +kernel) (hg : Gl X "isinstance" := by rfl) (hgn : Gl X n := by rfl)
    (h1 : n ≠ "__name__" := by decide) (h2 : (n == ("__debug__" : Str)) = false := by decide)
    (hs : starEach [e, .Name n p2] X.env = (false, eval e X.env) :: starEach [.Name n p2] X.env := by rfl) :
    PE X (.Call (.Name "isinstance" p) [e, .Name n p2] [] pos) (tCB (rIs2 X.K) (tCons te (tCons (tC (.ty T)) tNil))) :=
  pe_callB call_is2 hg hm (by decide +kernel) (pa_cons he (pa_cons (pe_bltn (v := .ty T) hgn hn hv rfl h1 h2) pa_nil) hs) (by decide) (by decide) hs
end
theorem yes {σ : L2.St} {H : Hp} {Q : Bool → Hp → Prop} (h : Q true H) : tYes σ H Q := h
theorem iteNB {b : Bool} {A B : Prop} (h : b = true) (k : B) : if (!b) = true then A else B := by
  rw [h]
  exact k
theorem iteNBF {b : Bool} {A B : Prop} (h : b = false) (k : A) : if (!b) = true then A else B := by
  rw [h]
  exact k
theorem iteB {b : Bool} {A B : Prop} (h : b = true) (k : A) : if b = true then A else B := by
  rw [h]
  exact k
theorem iteBF {b : Bool} {A B : Prop} (h : b = false) (k : B) : if b = true then A else B := by
  rw [h]
  exact iteF k
theorem kTT : kitB "tuple" "tuple" = some true := by decide +kernel
theorem kLT : kitB "list" "tuple" = some false := by decide +kernel
theorem kNT : kitB "NoneType" "tuple" = some false := by decide +kernel
theorem kIT : kitB "int" "tuple" = some false := by decide +kernel
theorem kSS : kitB "str" "str" = some true := by decide +kernel
theorem kII : kitB "int" "int" = some true := by decide +kernel
theorem kIB : kitB "int" "bool" = some false := by decide +kernel
theorem kBI : kitB "bool" "int" = some true := by decide +kernel
theorem kBB : kitB "bool" "bool" = some true := by decide +kernel
theorem kNI : kitB "NoneType" "int" = some false := by decide +kernel
theorem kNB : kitB "NoneType" "bool" = some false := by decide +kernel
theorem kTB : kitB "tuple" "bool" = some false := by decide +kernel
theorem kTI : kitB "tuple" "int" = some false := by decide +kernel
theorem kTS : kitB "tuple" "str" = some false := by decide +kernel
theorem kTL : kitB "tuple" "list" = some false := by decide +kernel
theorem small {n : Nat} (h : n ≤ 1000) : n ≤ sizeLine := Nat.le_of_lt (small1000 h)
end Kf
namespace Kf
open PySem L2
section
variable {Pr : Program} {w : World} {K : PySem.W.Frag} {mg : Str → Option Value} {base : Heap}
/-! ### is_whole of three -/
def spWh : Sp := fun vs H Q _ => ∃ v lo hi : Int, vs = [.int v, .int lo, .int hi] ∧ Q (.bl (decide (lo ≤ v) && decide (v ≤ hi))) H
theorem scWh : FnScope ["value", "low", "high"] ["value", "low", "high"] (defScope sWhole3) := ⟨rfl, rfl, rfl, by decide +kernel, rfl, by decide +kernel, by decide +kernel⟩
theorem ok_wh {f : Addr} {fd : FuncData} (D : Df K mg "is_whole_grids" "is_whole" "is_whole" sWhole3 ["value", "low", "high"] f fd) (B : Bi mg) : FnOk Pr w K mg base CX0 1 f fd ["value", "low", "high"] spWh := by
  refine D.F.ok scWh (fun vs H Q E h => ?_) (fun cdv A outer s H vs Q E hr h => ?_)
  · obtain ⟨v, lo, hi, rfl, _⟩ := h
    rfl
  · obtain ⟨v, lo, hi, rfl, q⟩ := h
    refine ⟨_, pss_one (ps_ret (pe_and (pe_callB call_isi (by rfl) B.isi (by decide +kernel) (pa_cons (pv 0) (pa_cons (pe_bltn (v := .ty "int") (by rfl) B.int (by decide +kernel) rfl) pa_nil)))
      (pe_and (pe_not (pe_callB call_isi (by rfl) B.isi (by decide +kernel) (pa_cons (pv 0) (pa_cons (pe_bltn (v := .ty "bool") (by rfl) B.bool (by decide +kernel) rfl) pa_nil))))
      (pe_one (pe_chain op_le op_le (pv 1) (pv 0) (pv 2)))))), ?_⟩
    refine ⟨_, rfl, _, _, _, _, _, rfl, .ty _, .base (.int _), kit_ty (by decide +kernel : kitB "int" "int" = some true), true, rfl, iteT ?_⟩
    refine ⟨_, rfl, _, _, _, _, _, rfl, .ty _, .base (.int _), kit_ty (by decide +kernel : kitB "int" "bool" = some false), false, rfl, true, rfl, iteT ?_⟩
    refine ⟨_, rfl, _, rfl, _, _, rfl, rfl, _, rfl, ?_⟩
    by_cases h1 : lo ≤ v
    · rw [decide_eq_true h1]
      refine iteT ⟨_, rfl, _, _, rfl, rfl, ?_⟩
      rw [decide_eq_true h1, Bool.true_and] at q
      exact q
    · rw [decide_eq_false h1]
      refine iteF ?_
      rw [decide_eq_false h1, Bool.false_and] at q
      exact q
/-! ### is_grid -/
def spGr : Sp := fun vs H Q _ => ∃ (a : Addr) (g : Gd), vs = [.ref a] ∧ GridAt H a g ∧ g.Ok ∧ ∀ H', Same H H' → Q (.bl true) H'
theorem scGr : FnScope ["value", "columns", "rows", "cells", "sign"] ["value"] (defScope sGrid) := ⟨rfl, rfl, rfl, by decide +kernel, rfl, by decide +kernel, by decide +kernel⟩
theorem signs_list : (Str.ofString ".#^~").cps.toList = [46, 35, 94, 126] := by decide +kernel
theorem sign_in {g : Gd} (ok : g.Ok) {i c : Nat} (h : (gs g).cps[i]? = some c) : decide (c ∈ (Str.ofString ".#^~").cps.toList) = true := by
  rw [signs_list]
  have h2 : g.cs[i]? = some c := by
    have z : (gs g).cps.toList[i]? = some c := by rw [Array.getElem?_toList]; exact h
    rw [gs_list] at z
    exact z
  rcases ok.sg c (List.mem_of_getElem? h2) with rfl | rfl | rfl | rfl <;> decide
theorem all_true (n : Nat) : (List.replicate n true).all id = true := by
  rw [List.all_eq_true]
  intro x hx
  rw [(List.mem_replicate.mp hx).2]
  rfl
theorem len_int {g : Gd} {n : Nat} (h : n = g.n) : ((n : Nat) : Int) = (g.w : Int) * (g.r : Int) := by
  rw [h]
  exact Int.natCast_mul _ _
theorem ok_gr {f f1 : Addr} {fd fd1 : FuncData} (D : Df K mg "is_grid" "is_grid" "is_grid" sGrid ["value"] f fd) (B : Bi mg) (C : Ks mg)
    (D1 : Df K mg "is_whole_grids" "is_whole" "is_whole" sWhole3 ["value", "low", "high"] f1 fd1) : FnOk Pr w K mg base CX0 2 f fd ["value"] spGr := by
  refine D.F.ok scGr (fun vs H Q E h => ?_) (fun cdv A outer s H vs Q E hr h => ?_)
  · obtain ⟨a, g, rfl, _⟩ := h
    rfl
  · obtain ⟨a, g, rfl, hg, ok, q⟩ := h
    have F1 : FnOk Pr w K mg base CX0 1 f1 fd1 ["value", "low", "high"] spWh := ok_wh D1 B
    obtain ⟨tkS, mS⟩ := C.signs
    obtain ⟨tkC, mC⟩ := C.cells
    have w1 : (decide ((1 : Int) ≤ (g.w : Int)) && decide ((g.w : Int) ≤ 40)) = true := by
      have := ok.w1
      have := ok.w6
      rw [decide_eq_true (by omega), decide_eq_true (by omega)]
      rfl
    have r1 : (decide ((1 : Int) ≤ (g.r : Int)) && decide ((g.r : Int) ≤ 40)) = true := by
      have := ok.r1
      have := ok.r6
      rw [decide_eq_true (by omega), decide_eq_true (by omega)]
      rfl
    have n36 := ok.n36
    have len : (gs g).length = g.n := (gs_len g).trans ok.len
    refine ⟨_, pss_cons (ps_if (PW.pt (pw_or (pt_not (pt_val (pe_isT "tuple" B.isi B.tuple (pv 0))))
        (pw_or (pt_cmpR op_ne (pe_callB call_len_seq (by rfl) B.len (by decide +kernel) (pa_cons (pv 0) pa_nil)) pe_int (nomark _))
        (pw_or1 (pt_not (pt_val (pe_isT "str" B.isi B.str (pe_ix ix_tup (pv 0) pe_int (fun _ _ => rfl))))))))) (pss_one (ps_ret pe_bl)) pss_nil)
      (pss_cons (ps_asg (pv 0) (pg_tup rfl (pgs_cons (pg_name (i := 1) scGr.nd rfl (.inl rfl)) (pgs_cons (pg_name (i := 2) scGr.nd rfl (.inl rfl)) (pgs_cons (pg_name (i := 3) scGr.nd rfl (.inl rfl)) pgs_nil)))))
      (pss_cons (ps_if (PW.pt (pw_or (pt_not (pt_val (pe_call F1 hr (by rfl) D1.m D1.F.kp D1.b .nil pass0 (pa_cons (pv 1) (pa_cons pe_int (pa_cons (pe_glob (v := .int 40) (by rfl) mC ⟨_, rfl⟩) pa_nil))))))
        (pw_or (pt_not (pt_val (pe_call F1 hr (by rfl) D1.m D1.F.kp D1.b .nil pass0 (pa_cons (pv 2) (pa_cons pe_int (pa_cons (pe_glob (v := .int 40) (by rfl) mC ⟨_, rfl⟩) pa_nil))))))
        (pw_or1 (pt_cmpR op_ne (pe_callB call_len_str (by rfl) B.len (by decide +kernel) (pa_cons (pv 3) pa_nil)) (pe_op op_mul (pv 1) (pv 2)) (nomark _)))))) (pss_one (ps_ret pe_bl)) pss_nil)
      (pss_one (ps_ret (pe_callB (cr_all rfl) (by rfl) B.all (by decide +kernel) (pa_cons
        (pe_lc (own := [("sign", 4)]) (g := gName 4) (tt := tYes) rfl scGr.nd (pi_str (pv 3)) (blkOk_by (own := [("sign", 4)]) (N := ["value", "columns", "rows", "cells", "sign"]) (sc := defScope sGrid) (by decide +kernel))
          (fun _ _ _ _ _ => pg_name (i := 4) scGr.nd rfl (Or.inl rfl)) (fun _ _ _ _ _ => pts_nil) (fun _ _ _ _ _ => pe_cmpR op_in_sign (pv 4) (pe_glob (v := .str ".#^~") (by rfl) mS ⟨_, rfl⟩) rfl)) pa_nil)))))), ?_⟩
    refine ⟨_, rfl, _, _, _, _, rfl, .base (.tup hg), kTT, true, rfl, iteF ?_⟩
    refine ⟨_, rfl, a, _, rfl, .inr (SqT.of hg), rfl, _, rfl, iteNS rfl ?_⟩
    refine ⟨_, rfl, a, _, 2, _, rfl, rfl, SqT.of hg, atI_nat (j := 2) rfl, _, _, _, _, rfl, .base (.str _), kSS, true, rfl, iteF ?_⟩
    -- columns, rows, cells = value
    refine ⟨_, rfl, a, _, rfl, SqT.of hg, rfl, _, _, rfl, _, _, rfl, _, _, rfl, rfl, ?_⟩
    refine ⟨_, rfl, _, _, _, rfl, _, rfl, iteNB w1 ?_⟩
    refine ⟨_, rfl, _, _, _, rfl, _, rfl, iteNB r1 ?_⟩
    refine ⟨_, rfl, gs g, rfl, small (by omega), _, rfl, _, rfl, _, _, rfl, rfl, .inl ⟨by omega, by have := ok.w6; omega⟩, rfl, _, rfl, iteNS (congrArg V.int (len_int len)) ?_⟩
    -- all(..)
    refine ⟨_, rfl, gs g, rfl, fun Dl hD => ?_⟩
    refine lc_it (walk_str (z := gs g)) (fun i H' => Same H H' ∧ H' Dl = some (.lst (List.replicate i (V.bl true)))) ⟨same_new hD, upd_same⟩ (fun _ _ _ _ => trivial) (fun i x H1 H2 hi p y => ?_) fun H' p => ?_
    · obtain ⟨rfl, c, hc, rfl⟩ := y
      obtain ⟨s1, e1⟩ := p
      refine ⟨rfl, yes (iteT ?_)⟩
      refine ⟨_, rfl, c, _, rfl, rfl, _, e1, ?_, same_at s1 hD, ?_⟩
      · rw [List.length_replicate]
        have : (gs g).cps.size = g.n := len
        exact small1000 (by omega)
      · rw [upd_same, sign_in ok hc, List.replicate_succ']
    · exact ⟨Dl, List.replicate _ true, rfl, .inl (.inl (by rw [List.map_replicate]; exact p.2)), by rw [all_true]; exact q _ p.1⟩
end
end Kf
namespace Kf
open PySem L2
section
variable {Pr : Program} {w : World} {K : PySem.W.Frag} {mg : Str → Option Value} {base : Heap}
/-! ### check_grid -/
def spCg : Sp := fun vs H Q _ => ∃ (a : Addr) (g : Gd), vs = [.ref a] ∧ GridAt H a g ∧ g.Ok ∧ ∀ H', Same H H' → Q .non H'
theorem scCg : FnScope ["grid"] ["grid"] (defScope sCheckGrid) := ⟨rfl, rfl, rfl, by decide +kernel, rfl, by decide +kernel, by decide +kernel⟩
theorem ok_cg {f f1 : Addr} {fd fd1 : FuncData} (D : Df K mg "check_grid" "check_grid" "check_grid" sCheckGrid ["grid"] f fd) (D1 : Df K mg "is_grid" "is_grid" "is_grid" sGrid ["value"] f1 fd1)
    (F1 : FnOk Pr w K mg base CX0 2 f1 fd1 ["value"] spGr) : FnOk Pr w K mg base CX0 3 f fd ["grid"] spCg := by
  refine D.F.ok scCg (fun vs H Q E h => ?_) (fun cdv A outer s H vs Q E hr h => ?_)
  · obtain ⟨a, g, rfl, _⟩ := h
    rfl
  · obtain ⟨a, g, rfl, hg, ok, q⟩ := h
    refine ⟨_, pss_one (ps_if (pt_not (pt_val (pe_call F1 hr (by rfl) D1.m D1.F.kp D1.b .nil pass0 (pa_cons (pv 0) pa_nil)))) (pss_one ps_never) pss_nil), ?_⟩
    refine ⟨_, rfl, a, g, rfl, hg, ok, fun H' s' => ⟨true, rfl, iteF ?_⟩⟩
    exact q H' s'
/-! ### is_whole of one, _law_is_integer -/
def simple : V → Bool
  | .non => true
  | .bl _ => true
  | .int _ => true
  | _ => false
def isInt : V → Bool
  | .int _ => true
  | _ => false
def spWo : Sp := fun vs H Q _ => ∃ v : V, vs = [v] ∧ simple v = true ∧ Q (.bl (isInt v)) H
theorem scWo : FnScope ["value"] ["value"] (defScope sWhole1) := ⟨rfl, rfl, rfl, by decide +kernel, rfl, by decide +kernel, by decide +kernel⟩
theorem ok_wo {f : Addr} {fd : FuncData} (D : Df K mg "is_whole_whole" "is_whole" "is_whole" sWhole1 ["value"] f fd) (B : Bi mg) : FnOk Pr w K mg base CX0 1 f fd ["value"] spWo := by
  refine D.F.ok scWo (fun vs H Q E h => ?_) (fun cdv A outer s H vs Q E hr h => ?_)
  · obtain ⟨v, rfl, _⟩ := h
    rfl
  · obtain ⟨v, rfl, hs, q⟩ := h
    refine ⟨_, pss_one (ps_ret (pe_and (pe_isT "int" B.isi B.int (pv 0)) (pe_one (pe_not (pe_isT "bool" B.isi B.bool (pv 0)))))), ?_⟩
    cases v with
    | non => exact ⟨_, rfl, _, _, _, _, rfl, .base .non, kNI, false, rfl, iteF q⟩
    | bl b =>
      refine ⟨_, rfl, _, _, _, _, rfl, .base (.bl _), kBI, true, rfl, iteT ?_⟩
      exact ⟨_, rfl, _, _, _, _, rfl, .base (.bl _), kBB, true, rfl, q⟩
    | int i =>
      refine ⟨_, rfl, _, _, _, _, rfl, .base (.int _), kII, true, rfl, iteT ?_⟩
      exact ⟨_, rfl, _, _, _, _, rfl, .base (.int _), kIB, false, rfl, q⟩
    | str _ => cases hs
    | byt _ => cases hs
    | flt _ => cases hs
    | ref _ => cases hs
    | ty _ => cases hs
theorem scIi : FnScope ["_law_actual"] ["_law_actual"] (defScope sIsInt) := ⟨rfl, rfl, rfl, by decide +kernel, rfl, by decide +kernel, by decide +kernel⟩
theorem ok_ii {f : Addr} {fd : FuncData} (D : Df K mg "_law_is_integer" "_law_is_integer" "_law_is_integer" sIsInt ["_law_actual"] f fd) (B : Bi mg) : FnOk Pr w K mg base CX0 1 f fd ["_law_actual"] spWo := by
  refine D.F.ok scIi (fun vs H Q E h => ?_) (fun cdv A outer s H vs Q E hr h => ?_)
  · obtain ⟨v, rfl, _⟩ := h
    rfl
  · obtain ⟨v, rfl, hs, q⟩ := h
    refine ⟨_, pss_one (ps_ret (pe_and (pe_isT "int" B.isi B.int (pv 0)) (pe_one (pe_not (pe_isT "bool" B.isi B.bool (pv 0)))))), ?_⟩
    cases v with
    | non => exact ⟨_, rfl, _, _, _, _, rfl, .base .non, kNI, false, rfl, iteF q⟩
    | bl b =>
      refine ⟨_, rfl, _, _, _, _, rfl, .base (.bl _), kBI, true, rfl, iteT ?_⟩
      exact ⟨_, rfl, _, _, _, _, rfl, .base (.bl _), kBB, true, rfl, q⟩
    | int i =>
      refine ⟨_, rfl, _, _, _, _, rfl, .base (.int _), kII, true, rfl, iteT ?_⟩
      exact ⟨_, rfl, _, _, _, _, rfl, .base (.int _), kIB, false, rfl, q⟩
    | str _ => cases hs
    | byt _ => cases hs
    | flt _ => cases hs
    | ref _ => cases hs
    | ty _ => cases hs
/-! ### is_between -/
theorem scBt : FnScope ["value", "low", "high"] ["value", "low", "high"] (defScope sBetween) := ⟨rfl, rfl, rfl, by decide +kernel, rfl, by decide +kernel, by decide +kernel⟩
theorem ok_bt {f f1 : Addr} {fd fd1 : FuncData} (D : Df K mg "is_between" "is_between" "is_between" sBetween ["value", "low", "high"] f fd) (D1 : Df K mg "is_whole_whole" "is_whole" "is_whole" sWhole1 ["value"] f1 fd1)
    (F1 : FnOk Pr w K mg base CX0 1 f1 fd1 ["value"] spWo) : FnOk Pr w K mg base CX0 2 f fd ["value", "low", "high"] spWh := by
  refine D.F.ok scBt (fun vs H Q E h => ?_) (fun cdv A outer s H vs Q E hr h => ?_)
  · obtain ⟨v, lo, hi, rfl, _⟩ := h
    rfl
  · obtain ⟨v, lo, hi, rfl, q⟩ := h
    refine ⟨_, pss_one (ps_ret (pe_and (pe_call F1 hr (by rfl) D1.m D1.F.kp D1.b .nil pass0 (pa_cons (pv 0) pa_nil)) (pe_one (pe_chain op_le op_le (pv 1) (pv 0) (pv 2))))), ?_⟩
    refine ⟨_, rfl, _, rfl, rfl, true, rfl, iteT ?_⟩
    refine ⟨_, rfl, _, rfl, _, _, rfl, rfl, _, rfl, ?_⟩
    by_cases h1 : lo ≤ v
    · rw [decide_eq_true h1]
      refine iteT ⟨_, rfl, _, _, rfl, rfl, ?_⟩
      rw [decide_eq_true h1, Bool.true_and] at q
      exact q
    · rw [decide_eq_false h1]
      refine iteF ?_
      rw [decide_eq_false h1, Bool.false_and] at q
      exact q
/-! ### the class -/
def spIni (C : Addr) : Sp := fun vs H Q _ => ∃ (p a dx : Addr) (g : Gd), vs = [.ref p, .ref a] ∧ H p = some (.ins C dx []) ∧ GridAt H a g ∧
  ∀ H', H' p = some (.ins C dx (kf g)) → (∀ b o, H b = some o → b ≠ p → H' b = some o) → Q .non H'
theorem scIni : FnScope ["self", "grid"] ["self", "grid"] (defScope sInit) := ⟨rfl, rfl, rfl, by decide +kernel, rfl, by decide +kernel, by decide +kernel⟩
theorem ok_ini {C f : Addr} {fd : FuncData} (D : Mf K C "__init__" "Cells.__init__" sInit ["self", "grid"] f fd) (T : Ct K mg C) : FnOk Pr w K mg base CX0 1 f fd ["self", "grid"] (spIni C) := by
  refine D.F.ok scIni (fun vs H Q E h => ?_) (fun cdv A outer s H vs Q E hr h => ?_)
  · obtain ⟨p, a, dx, g, rfl, _⟩ := h
    rfl
  · obtain ⟨p, a, dx, g, rfl, hp, hg, q⟩ := h
    refine ⟨_, pss_one (ps_asg (pv 1) (pg_tup rfl (pgs_cons (pg_fld (pv 0)) (pgs_cons (pg_fld (pv 0)) (pgs_cons (pg_fld (pv 0)) pgs_nil))))), ?_⟩
    refine ⟨_, rfl, a, _, rfl, SqT.of hg, rfl, _, _, rfl, _, rfl, p, C, dx, _, rfl, hp, T.cl, T.nC, (by decide), ?_⟩
    refine ⟨_, _, rfl, _, rfl, p, C, dx, _, rfl, upd_same, T.cl, T.nR, (by show 1 < 1000; decide), ?_⟩
    refine ⟨_, _, rfl, _, rfl, p, C, dx, _, rfl, upd_same, T.cl, T.nS, Nat.lt_of_le_of_lt (length_putF _ _ _) (by show 2 < 1000; decide), ?_⟩
    refine ⟨rfl, q _ ?_ fun b o e hb => ?_⟩
    · rw [upd_same, kf_put]
    · rw [upd_ne hb, upd_ne hb, upd_ne hb]
      exact e
def pairT (c : P) : HO := .tup [.int c.1, .int c.2]
def spCel (C : Addr) : Sp := fun vs H Q _ => ∃ (p : Addr) (g : Gd) (i : Nat), vs = [.ref p, .int (i : Int)] ∧ KnAt C H p g ∧ g.Ok ∧ ∀ q, H q = none → Q (.ref q) (upd H q (pairT (cell g i)))
theorem scCel : FnScope ["self", "at"] ["self", "at"] (defScope sCell) := ⟨rfl, rfl, rfl, by decide +kernel, rfl, by decide +kernel, by decide +kernel⟩
theorem cell_eq (g : Gd) (i : Nat) : ((i : Int) - (g.w : Int) * ((i : Int) / (g.w : Int)), (i : Int) / (g.w : Int)) = cell g i := by
  unfold cell
  rw [← Int.emod_def]
  rfl
theorem ok_cel {C f : Addr} {fd : FuncData} (D : Mf K C "cell" "Cells.cell" sCell ["self", "at"] f fd) (T : Ct K mg C) : FnOk Pr w K mg base CX0 1 f fd ["self", "at"] (spCel C) := by
  refine D.F.ok scCel (fun vs H Q E h => ?_) (fun cdv A outer s H vs Q E hr h => ?_)
  · obtain ⟨p, g, i, rfl, _⟩ := h
    rfl
  · obtain ⟨p, g, i, rfl, ⟨dx, hp⟩, ok, q⟩ := h
    have w1 := ok.w1
    have w6 := ok.w6
    refine ⟨_, pss_one (ps_ret (pe_tup (pa_cons (pe_op op_sub (pv 1) (pe_op op_mul (pe_fld (pv 0) rfl) (pe_op op_fdiv (pv 1) (pe_fld (pv 0) rfl)))) (pa_cons (pe_op op_fdiv (pv 1) (pe_fld (pv 0) rfl)) pa_nil)))), ?_⟩
    refine ⟨_, rfl, _, rfl, p, C, dx, _, _, rfl, hp, T.cl, T.nC, kf_c g, _, rfl, _, rfl, p, C, dx, _, _, rfl, hp, T.cl, T.nC, kf_c g, _, _, rfl, rfl, ⟨by omega, by omega⟩, ?_⟩
    refine ⟨_, _, rfl, rfl, .inl ⟨by omega, by omega⟩, _, _, rfl, rfl, ?_⟩
    refine ⟨_, rfl, _, rfl, p, C, dx, _, _, rfl, hp, T.cl, T.nC, kf_c g, _, _, rfl, rfl, ⟨by omega, by omega⟩, (by show 2 ≤ sizeLine; decide), fun t ht => ?_⟩
    have z := q t ht
    rw [← cell_eq] at z
    exact z
def spIdx (C : Addr) : Sp := fun vs H Q _ => ∃ (p c : Addr) (g : Gd) (x y : Int), vs = [.ref p, .ref c] ∧ KnAt C H p g ∧ g.Ok ∧ H c = some (pairT (x, y)) ∧ Q (.int (y * (g.w : Int) + x)) H
theorem scIdx : FnScope ["self", "cell"] ["self", "cell"] (defScope sIndex) := ⟨rfl, rfl, rfl, by decide +kernel, rfl, by decide +kernel, by decide +kernel⟩
theorem ok_idx {C f : Addr} {fd : FuncData} (D : Mf K C "index" "Cells.index" sIndex ["self", "cell"] f fd) (T : Ct K mg C) : FnOk Pr w K mg base CX0 1 f fd ["self", "cell"] (spIdx C) := by
  refine D.F.ok scIdx (fun vs H Q E h => ?_) (fun cdv A outer s H vs Q E hr h => ?_)
  · obtain ⟨p, c, g, x, y, rfl, _⟩ := h
    rfl
  · obtain ⟨p, c, g, x, y, rfl, ⟨dx, hp⟩, ok, hc, q⟩ := h
    have w6 := ok.w6
    refine ⟨_, pss_one (ps_ret (pe_op op_add (pe_op op_mul (pe_ix ix_tup (pv 1) pe_int (fun _ _ => rfl)) (pe_fld (pv 0) rfl)) (pe_ix ix_tup (pv 1) pe_int (fun _ _ => rfl)))), ?_⟩
    refine ⟨_, rfl, c, _, 1, _, rfl, rfl, SqT.of hc, atI_nat (j := 1) rfl, _, rfl, p, C, dx, _, _, rfl, hp, T.cl, T.nC, kf_c g, _, _, rfl, rfl, .inr ⟨by omega, by omega⟩, ?_⟩
    exact ⟨_, rfl, c, _, 0, _, rfl, rfl, SqT.of hc, atI_nat (j := 0) rfl, _, _, rfl, rfl, q⟩
def spIsc (C : Addr) : Sp := fun vs H Q _ => ∃ (p c : Addr) (g : Gd) (x : P), vs = [.ref p, .ref c] ∧ KnAt C H p g ∧ H c = some (pairT x) ∧ Q (.bl (!decide (outG g x))) H
theorem scIsc : FnScope ["self", "value"] ["self", "value"] (defScope sIsCell) := ⟨rfl, rfl, rfl, by decide +kernel, rfl, by decide +kernel, by decide +kernel⟩
theorem out_eq (g : Gd) (x : P) : ((decide ((0 : Int) ≤ x.1) && decide (x.1 ≤ (g.w : Int) - 1)) && (decide ((0 : Int) ≤ x.2) && decide (x.2 ≤ (g.r : Int) - 1))) = !decide (outG g x) := by
  by_cases h : outG g x
  · rw [decide_eq_true h]
    unfold outG at h
    show _ = false
    rw [Bool.eq_false_iff]
    intro z
    simp only [Bool.and_eq_true, decide_eq_true_eq] at z
    omega
  · rw [decide_eq_false h]
    unfold outG at h
    simp only [Bool.not_false, Bool.and_eq_true, decide_eq_true_eq]
    omega
theorem ok_isc {C f f1 : Addr} {fd fd1 : FuncData} (D : Mf K C "is_cell" "Cells.is_cell" sIsCell ["self", "value"] f fd) (T : Ct K mg C) (B : Bi mg)
    (D1 : Df K mg "is_between" "is_between" "is_between" sBetween ["value", "low", "high"] f1 fd1) (F1 : FnOk Pr w K mg base CX0 2 f1 fd1 ["value", "low", "high"] spWh) : FnOk Pr w K mg base CX0 3 f fd ["self", "value"] (spIsc C) := by
  refine D.F.ok scIsc (fun vs H Q E h => ?_) (fun cdv A outer s H vs Q E hr h => ?_)
  · obtain ⟨p, c, g, x, rfl, _⟩ := h
    rfl
  · obtain ⟨p, c, g, x, rfl, ⟨dx, hp⟩, hc, q⟩ := h
    rw [← out_eq] at q
    refine ⟨_, pss_cons (ps_if (PW.pt (pw_or (pt_not (pt_val (pe_isT "tuple" B.isi B.tuple (pv 1)))) (pw_or1 (pt_cmpR op_ne (pe_callB call_len_seq (by rfl) B.len (by decide +kernel) (pa_cons (pv 1) pa_nil)) pe_int (nomark _))))) (pss_one (ps_ret pe_bl)) pss_nil)
      (pss_one (ps_ret (pe_and (pe_call F1 hr (by rfl) D1.m D1.F.kp D1.b .nil pass0 (pa_cons (pe_ix ix_tup (pv 1) pe_int (fun _ _ => rfl)) (pa_cons pe_int (pa_cons (pe_op op_sub (pe_fld (pv 0) rfl) pe_int) pa_nil))))
        (pe_one (pe_call F1 hr (by rfl) D1.m D1.F.kp D1.b .nil pass0 (pa_cons (pe_ix ix_tup (pv 1) pe_int (fun _ _ => rfl)) (pa_cons pe_int (pa_cons (pe_op op_sub (pe_fld (pv 0) rfl) pe_int) pa_nil)))))))), ?_⟩
    refine ⟨_, rfl, _, _, _, _, rfl, .base (.tup hc), kTT, true, rfl, iteF ?_⟩
    refine ⟨_, rfl, c, _, rfl, .inr (SqT.of hc), rfl, _, rfl, iteNS rfl ?_⟩
    refine ⟨_, rfl, c, _, 0, _, rfl, rfl, SqT.of hc, atI_nat (j := 0) rfl, _, rfl, p, C, dx, _, _, rfl, hp, T.cl, T.nC, kf_c g, _, _, rfl, rfl, ?_⟩
    refine ⟨_, _, _, rfl, _, rfl, ?_⟩
    cases e : (decide ((0 : Int) ≤ x.1) && decide (x.1 ≤ (g.w : Int) - 1)) with
    | false =>
      rw [e, Bool.false_and] at q
      exact iteF q
    | true =>
      rw [e, Bool.true_and] at q
      refine iteT ?_
      refine ⟨_, rfl, c, _, 1, _, rfl, rfl, SqT.of hc, atI_nat (j := 1) rfl, _, rfl, p, C, dx, _, _, rfl, hp, T.cl, T.nR, kf_r g, _, _, rfl, rfl, ?_⟩
      exact ⟨_, _, _, rfl, q⟩
def spCos (C : Addr) : Sp := fun vs H Q _ => ∃ (p : Addr) (g : Gd) (i : Nat), vs = [.ref p, .int (i : Int)] ∧ KnAt C H p g ∧ g.Ok ∧ i < g.n ∧ ∀ H', Same H H' → Q (.int (cost g (cell g i))) H'
theorem scCos : FnScope ["self", "at"] ["self", "at"] (defScope sCost) := ⟨rfl, rfl, rfl, by decide +kernel, rfl, by decide +kernel, by decide +kernel⟩
theorem sign_cost2 {c : Nat} (h : c = 46 ∨ c = 35 ∨ c = 94 ∨ c = 126) : (valV (mergeK [] [((Sum.inr "#" : Key), V.int 0), ((Sum.inr "~" : Key), V.int 3)]) (Sum.inr ⟨#[c]⟩)).getD (V.int 1) = V.int (sc c) := by
  rcases h with rfl | rfl | rfl | rfl <;> decide +kernel
theorem cost_cell {g : Gd} (ok : g.Ok) {i c : Nat} (hi : i < g.n) (h : g.cs[i]? = some c) : cost g (cell g i) = sc c := by
  unfold cost
  rw [if_neg (outG_not (cell_in ok.w1 hi)), idx_cell]
  unfold List.getD
  rw [h]
  rfl
theorem ok_cos {C f : Addr} {fd : FuncData} (D : Mf K C "cost" "Cells.cost" sCost ["self", "at"] f fd) (T : Ct K mg C) (S : Ks mg) : FnOk Pr w K mg base CX0 1 f fd ["self", "at"] (spCos C) := by
  refine D.F.ok scCos (fun vs H Q E h => ?_) (fun cdv A outer s H vs Q E hr h => ?_)
  · obtain ⟨p, g, i, rfl, _⟩ := h
    rfl
  · obtain ⟨p, g, i, rfl, ⟨dx, hp⟩, ok, hi, q⟩ := h
    have hu := hu_of hr
    obtain ⟨tk, mW⟩ := S.slow
    have hlen : i < g.cs.length := by
      rw [ok.len]
      exact hi
    have hc : g.cs[i]? = some g.cs[i] := List.getElem?_eq_getElem hlen
    have n36 := ok.n36
    refine ⟨_, pss_one (ps_ret (pe_dget2 hu (pe_disp (pps_cons pe_str pe_int (pps_cons pe_str (pe_glob (v := .int 3) (by rfl) mW ⟨_, rfl⟩) pps_nil)) (by rfl) (by rfl) (fun z => by cases z) (by decide))
      (pe_ix ix_str (pe_fld (pv 0) rfl) (pv 1) (fun _ _ => rfl)) pe_int ⟨by rfl, by rfl, by rfl, by rfl⟩)), ?_⟩
    intro d hd
    refine ⟨upd_same, [((Sum.inr "#" : Key), V.int 0), ((Sum.inr "~" : Key), V.int 3)], rfl, (by show 2 ≤ 15; decide), d, rfl, .inl ⟨_, .of upd_same⟩, ?_⟩
    have npd : p ≠ d := ne_of_none hp hd
    refine ⟨_, rfl, p, C, dx, _, _, rfl, (by rw [upd_ne npd, upd_ne npd]; exact hp), T.cl, T.nS, kf_s g, _, rfl, gs g, _, g.cs[i], rfl, rfl, small (by rw [gs_len, ok.len]; omega), atI_nat (by rw [gs_list]; exact hc), ?_⟩
    refine ⟨_, DGet.k (k := Sum.inr ⟨#[g.cs[i]]⟩) upd_same, ?_⟩
    rw [sign_cost2 (ok.sg _ (List.getElem_mem hlen)), ← cost_cell ok hi hc]
    exact q _ (same_at (same_new hd) hd)
end
end Kf
namespace Kf
open PySem L2
section
variable {Pr : Program} {w : World} {K : PySem.W.Frag} {mg : Str → Option Value} {base : Heap}
/-! ### beside -/
def dirs : List P := [(1, 0), (0, 1), (-1, 0), (0, -1)]
structure Steps (K : PySem.W.Frag) (mg : Str → Option Value) : Prop where
  ex : ∃ (S0 : Addr) (ss : List Addr), mg "STEPS" = some (.ref S0) ∧ ss.length = 4 ∧ (∀ H, SqT K H S0 (ss.map V.ref)) ∧
    ∀ (j : Nat) (d : P), dirs[j]? = some d → ∃ a, ss[j]? = some a ∧ ∀ H, SqT K H a [.int d.1, .int d.2]
theorem nb_dir (c : P) : nb c = dirs.map fun d => (c.1 + d.1, c.2 + d.2) := by
  show [(c.1 + 1, c.2), (c.1, c.2 + 1), (c.1 - 1, c.2), (c.1, c.2 - 1)] = [(c.1 + 1, c.2 + 0), (c.1 + 0, c.2 + 1), (c.1 + -1, c.2 + 0), (c.1 + 0, c.2 + -1)]
  rw [Int.add_zero, Int.add_zero, Int.sub_eq_add_neg, Int.sub_eq_add_neg]
theorem idx_int {g : Gd} {x : P} (h : inG g x) : x.2 * (g.w : Int) + x.1 = ((idx g x : Nat) : Int) := by
  obtain ⟨a, b, rfl, _, _⟩ := nat_of h
  rw [idx_nat, Int.natCast_add, Int.natCast_mul]
def upto (g : Gd) (c : P) (j : Nat) : List P := ((nb c).take j).filter fun x => decide (0 < cost g x)
theorem upto_all (g : Gd) (c : P) : upto g c 4 = bes g c := rfl
theorem upto_yes {g : Gd} {c x : P} {j : Nat} (h : (nb c)[j]? = some x) (p : 0 < cost g x) : upto g c (j + 1) = upto g c j ++ [x] := by
  unfold upto
  rw [List.take_add_one, h, List.filter_append]
  congr 1
  show List.filter _ [x] = [x]
  rw [List.filter_cons, if_pos (decide_eq_true p), List.filter_nil]
theorem upto_no {g : Gd} {c x : P} {j : Nat} (h : (nb c)[j]? = some x) (p : ¬ 0 < cost g x) : upto g c (j + 1) = upto g c j := by
  unfold upto
  rw [List.take_add_one, h, List.filter_append]
  show _ ++ List.filter _ [x] = _
  rw [List.filter_cons, if_neg (by rw [decide_eq_false p]; decide), List.filter_nil, List.append_nil]
theorem upto_len (g : Gd) (c : P) (j : Nat) : (upto g c j).length ≤ 4 := by
  unfold upto
  have h1 := List.length_filter_le (fun x => decide (0 < cost g x)) ((nb c).take j)
  have h2 : ((nb c).take j).length ≤ 4 := by
    rw [List.length_take]
    exact Nat.min_le_right _ _
  omega
def ixV (g : Gd) (x : P) : V := .int ((idx g x : Nat) : Int)
def spBes (C : Addr) : Sp := fun vs H Q _ => ∃ (p : Addr) (g : Gd) (i : Nat), vs = [.ref p, .int (i : Int)] ∧ KnAt C H p g ∧ g.Ok ∧ i < g.n ∧
  ∀ q H', H q = none → Same H H' → H' q = some (.lst ((bes g (cell g i)).map (ixV g))) → Q (.ref q) H'
abbrev nBes : List Str := ["self", "at", "column", "row", "found", "dx", "dy", "cell"]
theorem scBes : FnScope nBes ["self", "at"] (defScope sBeside) := ⟨rfl, rfl, rfl, by decide +kernel, rfl, by decide +kernel, by decide +kernel⟩
theorem no_isc (g : Gd) : (kf g).lookup ("is_cell" : Str) = none := kf_no g (by decide +kernel) (by decide +kernel) (by decide +kernel)
theorem no_cel (g : Gd) : (kf g).lookup ("cell" : Str) = none := kf_no g (by decide +kernel) (by decide +kernel) (by decide +kernel)
theorem no_cos (g : Gd) : (kf g).lookup ("cost" : Str) = none := kf_no g (by decide +kernel) (by decide +kernel) (by decide +kernel)
theorem no_idx (g : Gd) : (kf g).lookup ("index" : Str) = none := kf_no g (by decide +kernel) (by decide +kernel) (by decide +kernel)
theorem no_bes (g : Gd) : (kf g).lookup ("beside" : Str) = none := kf_no g (by decide +kernel) (by decide +kernel) (by decide +kernel)
theorem cost_out {g : Gd} {x : P} (h : outG g x) : ¬ 0 < cost g x := by
  unfold cost
  rw [if_pos h]
  decide
theorem cost_idx {g : Gd} {x : P} (h : inG g x) : cost g (cell g (idx g x)) = cost g x := by rw [cell_idx h]
theorem ok_bes {C f f1 f2 f3 f4 : Addr} {fd fd1 fd2 fd3 fd4 : FuncData} (D : Mf K C "beside" "Cells.beside" sBeside ["self", "at"] f fd) (T : Ct K mg C) (S : Steps K mg)
    (D1 : Mf K C "cell" "Cells.cell" sCell ["self", "at"] f1 fd1) (F1 : FnOk Pr w K mg base CX0 1 f1 fd1 ["self", "at"] (spCel C))
    (D2 : Mf K C "is_cell" "Cells.is_cell" sIsCell ["self", "value"] f2 fd2) (F2 : FnOk Pr w K mg base CX0 3 f2 fd2 ["self", "value"] (spIsc C))
    (D3 : Mf K C "index" "Cells.index" sIndex ["self", "cell"] f3 fd3) (F3 : FnOk Pr w K mg base CX0 1 f3 fd3 ["self", "cell"] (spIdx C))
    (D4 : Mf K C "cost" "Cells.cost" sCost ["self", "at"] f4 fd4) (F4 : FnOk Pr w K mg base CX0 1 f4 fd4 ["self", "at"] (spCos C)) : FnOk Pr w K mg base CX0 4 f fd ["self", "at"] (spBes C) := by
  refine D.F.ok scBes (fun vs H Q E h => ?_) (fun cdv A outer s H vs Q E hr h => ?_)
  · obtain ⟨p, g, i, rfl, _⟩ := h
    rfl
  · obtain ⟨p, g, i, rfl, ⟨dx, hp⟩, ok, hi, q⟩ := h
    have hr1 := hr.mono (by decide : 1 ≤ 3)
    obtain ⟨S0, ss, mS, l4, hS0, hSj⟩ := S.ex
    refine ⟨_, pss_cons (ps_asg (pe_meth (pv 0) T.cl D1.M F1 hr1 D1.b .nil pass0 (pa_cons (pv 1) pa_nil)) (pg_tup rfl (pgs_cons (pg_name (i := 2) scBes.nd rfl (.inl rfl)) (pgs_cons (pg_name (i := 3) scBes.nd rfl (.inl rfl)) pgs_nil))))
      (pss_cons (ps_set (i := 4) scBes.nd rfl (.inl rfl) (pe_lst pa_nil))
      (pss_cons (ps_for PassesOwn.never rfl (pi_tup (pe_glob (v := .ref S0) (by rfl) mS rfl)) (pg_tup rfl (pgs_cons (pg_name (i := 5) scBes.nd rfl (.inl rfl)) (pgs_cons (pg_name (i := 6) scBes.nd rfl (.inl rfl)) pgs_nil)))
        (pss_cons (ps_set (i := 7) scBes.nd rfl (.inl rfl) (pe_tup (pa_cons (pe_op op_add (pv 2) (pv 5)) (pa_cons (pe_op op_add (pv 3) (pv 6)) pa_nil))))
        (pss_one (ps_if (PW.pt (pw_and (pt_val (pe_meth (pv 0) T.cl D2.M F2 hr D2.b .nil pass0 (pa_cons (pv 7) pa_nil)))
            (pw_and1 (pt_cmpR op_gt (pe_meth (pv 0) T.cl D4.M F4 hr1 D4.b .nil pass0 (pa_cons (pe_meth (pv 0) T.cl D3.M F3 hr1 D3.b .nil pass0 (pa_cons (pv 7) pa_nil)) pa_nil)) pe_int (nomark _)))))
          (pss_one (ps_expr (pe_bm PySem.F.plainAttrs_list PySem.F.slot_list_append PySem.F.type_list_append mt_append (pv 4) (pa_cons (pe_meth (pv 0) T.cl D3.M F3 hr1 D3.b .nil pass0 (pa_cons (pv 7) pa_nil)) pa_nil)))) pss_nil))))
      (pss_one (ps_ret (pv 4))))), ?_⟩
    refine ⟨_, rfl, p, dx, _, rfl, hp, no_cel g, _, rfl, p, g, i, rfl, ⟨dx, hp⟩, ok, fun t ht => ?_⟩
    generalize hc : cell g i = c at q ⊢
    have s1 : Same H (upd H t (pairT c)) := same_new ht
    refine ⟨t, _, rfl, SqT.of upd_same, rfl, _, _, rfl, _, _, rfl, rfl, Nat.zero_le _, fun l hl => ?_⟩
    have s2 : Same H (upd (upd H t (pairT c)) l (.lst [])) := same_at s1 (s1.free hl)
    refine ⟨S0, rfl, ⟨_, hS0 _⟩, ?_⟩
    refine for_tup (xs := ss.map V.ref) (fun j σ H' => ∃ d5 d6 d7, σ = [some (.ref p), some (.int (i : Int)), some (.int c.1), some (.int c.2), some (.ref l), d5, d6, d7] ∧ Same H H' ∧ H' l = some (.lst ((upto g c j).map (ixV g))))
      ⟨none, none, none, rfl, s2, upd_same⟩ (fun j σ H' _ _ => hS0 H') (fun j x σ H' hx hP => ?_) fun σ H' hP => ?_
    · obtain ⟨d5, d6, d7, rfl, sm, el⟩ := hP
      have hj : j < ss.length := by
        have := (List.getElem?_eq_some_iff.mp hx).1
        rw [List.length_map] at this
        exact this
      have hjd : j < dirs.length := by
        rw [l4] at hj
        exact hj
      obtain ⟨a, ea, sa⟩ := hSj j _ (List.getElem?_eq_getElem hjd)
      have ex : x = .ref a := by
        rw [List.getElem?_map, ea] at hx
        exact (Option.some.inj hx).symm
      subst ex
      generalize hd : dirs[j] = d at sa
      have hnb : (nb c)[j]? = some (c.1 + d.1, c.2 + d.2) := by
        rw [nb_dir, List.getElem?_map, List.getElem?_eq_getElem hjd, hd]
        rfl
      refine ⟨a, _, rfl, sa _, rfl, _, _, rfl, _, _, rfl, rfl, ?_⟩
      -- cell = (column + dx, row + dy)
      refine ⟨_, rfl, _, rfl, _, _, rfl, rfl, _, rfl, _, rfl, _, _, rfl, rfl, (by show 2 ≤ sizeLine; decide), fun u hu => ?_⟩
      generalize hx : ((c.1 + d.1, c.2 + d.2) : P) = x at hnb
      have hcx : (upd H' u (.tup [.int (c.1 + d.1), .int (c.2 + d.2)])) u = some (pairT x) := by
        rw [upd_same, ← hx]
        rfl
      have sm' : Same H (upd H' u (.tup [.int (c.1 + d.1), .int (c.2 + d.2)])) := sm.trans (same_new hu)
      have el' : (upd H' u (.tup [.int (c.1 + d.1), .int (c.2 + d.2)])) l = some (.lst ((upto g c j).map (ixV g))) := same_new hu _ _ el
      generalize upd H' u (.tup [.int (c.1 + d.1), .int (c.2 + d.2)]) = H2 at hcx sm' el' ⊢
      have hp2 : H2 p = some (.ins C dx (kf g)) := sm' _ _ hp
      refine ⟨_, rfl, p, dx, _, rfl, hp2, no_isc g, _, rfl, p, u, g, x, rfl, ⟨dx, hp2⟩, hcx, _, rfl, ?_⟩
      by_cases ho : outG g x
      · rw [decide_eq_true ho]
        refine iteF ?_
        exact ⟨_, _, _, rfl, sm', by rw [upto_no hnb (cost_out ho)]; exact el'⟩
      · rw [decide_eq_false ho]
        refine iteT ?_
        have hin := inG_of ho
        refine ⟨_, rfl, p, dx, _, rfl, hp2, no_cos g, _, rfl, p, dx, _, rfl, hp2, no_idx g, _, rfl, p, u, g, x.1, x.2, rfl, ⟨dx, hp2⟩, ok, hcx, ?_⟩
        refine ⟨p, g, idx g x, (by rw [idx_int hin]; rfl), ⟨dx, hp2⟩, ok, idx_lt hin, fun H3 s3 => ?_⟩
        rw [cost_idx hin]
        refine ⟨_, _, rfl, rfl, _, rfl, ?_⟩
        have el3 := s3 _ _ el'
        have hp3 := s3 _ _ hp2
        by_cases hc : 0 < cost g x
        · rw [decide_eq_true hc]
          refine iteT ?_
          refine ⟨_, rfl, .inl ⟨rfl, _, SqL.of el3⟩, _, rfl, p, dx, _, rfl, hp3, no_idx g, _, rfl, p, u, g, x.1, x.2, rfl, ⟨dx, hp3⟩, ok, s3 _ _ hcx, ?_⟩
          refine ⟨l, _, _, rfl, rfl, el3, small1000 (by rw [List.length_map]; have := upto_len g c j; omega), ?_⟩
          refine ⟨_, _, _, rfl, same_at (sm'.trans s3) (s1.free hl), ?_⟩
          rw [upd_same, upto_yes hnb hc, List.map_append, idx_int hin]
          rfl
        · rw [decide_eq_false hc]
          refine iteF ?_
          exact ⟨_, _, _, rfl, sm'.trans s3, by rw [upto_no hnb hc]; exact el3⟩
    · obtain ⟨d5, d6, d7, rfl, sm, el⟩ := hP
      rw [List.length_map, l4] at el
      exact ⟨_, rfl, q l H' (s1.free hl) sm el⟩
/-! ### check_goals -/
def GoalsAt (H : Hp) (ga : Addr) (ps : List P) : Prop := ∃ as : List Addr, H ga = some (.tup (as.map V.ref)) ∧ as.length = ps.length ∧ ∀ (i : Nat) (x : P), ps[i]? = some x → ∃ a, as[i]? = some a ∧ H a = some (pairT x)
theorem Same.goals {H H' : Hp} {ga : Addr} {ps : List P} (s : Same H H') (h : GoalsAt H ga ps) : GoalsAt H' ga ps := by
  obtain ⟨as, h1, h2, h3⟩ := h
  refine ⟨as, s _ _ h1, h2, fun i x e => ?_⟩
  obtain ⟨a, ea, ha⟩ := h3 i x e
  exact ⟨a, ea, s _ _ ha⟩
def spGo (C : Addr) : Sp := fun vs H Q _ => ∃ (p ga : Addr) (g : Gd) (ps : List P), vs = [.ref p, .ref ga] ∧ KnAt C H p g ∧ GoalsAt H ga ps ∧ 1 ≤ ps.length ∧ ps.length ≤ 16 ∧ (∀ x ∈ ps, inG g x) ∧ ∀ H', Same H H' → Q .non H'
abbrev nGo : List Str := ["known", "goals", "cell"]
theorem scGo : FnScope nGo ["known", "goals"] (defScope sCheckGoals) := ⟨rfl, rfl, rfl, by decide +kernel, rfl, by decide +kernel, by decide +kernel⟩
theorem ok_go {C f f1 : Addr} {fd fd1 : FuncData} (D : Df K mg "check_goals" "check_goals" "check_goals" sCheckGoals ["known", "goals"] f fd) (T : Ct K mg C) (B : Bi mg) (S : Ks mg)
    (D1 : Mf K C "is_cell" "Cells.is_cell" sIsCell ["self", "value"] f1 fd1) (F1 : FnOk Pr w K mg base CX0 3 f1 fd1 ["self", "value"] (spIsc C)) : FnOk Pr w K mg base CX0 4 f fd ["known", "goals"] (spGo C) := by
  refine D.F.ok scGo (fun vs H Q E h => ?_) (fun cdv A outer s H vs Q E hr h => ?_)
  · obtain ⟨p, ga, g, ps, rfl, _⟩ := h
    rfl
  · obtain ⟨p, ga, g, ps, rfl, ⟨dx, hp⟩, hG, h1, h16, hin, q⟩ := h
    obtain ⟨as, hga, hal, hpt⟩ := id hG
    obtain ⟨tk, mM⟩ := S.goals
    refine ⟨_, pss_cons (ps_if (PW.pt (pw_or (pt_not (pt_val (pe_isT "tuple" B.isi B.tuple (pv 1))))
        (pw_or1 (pt_not (pt_chain op_le op_le pe_int (pe_callB call_len_seq (by rfl) B.len (by decide +kernel) (pa_cons (pv 1) pa_nil)) (pe_glob (v := .int 16) (by rfl) mM ⟨_, rfl⟩)))))) (pss_one ps_never) pss_nil)
      (pss_one (ps_if (pt_not (pt_val (pe_callB (cr_all rfl) (by rfl) B.all (by decide +kernel) (pa_cons
        (pe_lc (own := [("cell", 2)]) (g := gName 2) (tt := tYes) rfl scGo.nd (pi_tup (pv 1)) (blkOk_by (own := [("cell", 2)]) (N := nGo) (sc := defScope sCheckGoals) (by decide +kernel))
          (fun _ _ _ _ _ => pg_name (i := 2) scGo.nd rfl (Or.inl rfl)) (fun _ _ _ _ _ => pts_nil) (fun _ _ _ _ _ => pe_meth (pv 0) T.cl D1.M F1 hr D1.b .nil pass0 (pa_cons (pv 2) pa_nil))) pa_nil)))) (pss_one ps_never) pss_nil)), ?_⟩
    refine ⟨_, rfl, _, _, _, _, rfl, .base (.tup hga), kTT, true, rfl, iteF ?_⟩
    refine ⟨_, rfl, ga, _, rfl, .inr (SqT.of hga), _, _, rfl, rfl, _, rfl, ?_⟩
    rw [List.length_map, hal, decide_eq_true (by omega : (1 : Int) ≤ ((ps.length : Nat) : Int))]
    refine iteT ?_
    refine ⟨_, _, rfl, rfl, _, rfl, ?_⟩
    rw [decide_eq_true (by omega : ((ps.length : Nat) : Int) ≤ 16)]
    refine iteF ?_
    -- all(..)
    refine ⟨_, rfl, ga, rfl, ⟨_, SqT.of hga⟩, fun Dl hD => ?_⟩
    refine lc_tup (xs := as.map V.ref) (fun i H' => Same H H' ∧ H' Dl = some (.lst (List.replicate i (V.bl true)))) ⟨same_new hD, upd_same⟩ (fun i H' _ p => SqT.of (p.1 _ _ hga)) (fun i x H1 hx p => ?_) fun H' p => ?_
    · obtain ⟨s1, e1⟩ := p
      have hlt : i < ps.length := by
        have := (List.getElem?_eq_some_iff.mp hx).1
        rw [List.length_map, hal] at this
        exact this
      obtain ⟨a, ea, ha⟩ := hpt i _ (List.getElem?_eq_getElem hlt)
      have ex : x = .ref a := by
        rw [List.getElem?_map, ea] at hx
        exact (Option.some.inj hx).symm
      subst ex
      refine ⟨rfl, yes (iteT ?_)⟩
      have hp1 := s1 _ _ hp
      refine ⟨_, rfl, p, dx, _, rfl, hp1, no_isc g, _, rfl, p, a, g, ps[i], rfl, ⟨dx, hp1⟩, s1 _ _ ha, ?_⟩
      rw [decide_eq_false (outG_not (hin _ (List.getElem_mem hlt)))]
      refine ⟨_, e1, ?_, same_at s1 hD, ?_⟩
      · rw [List.length_replicate]
        exact small1000 (by omega)
      · rw [upd_same, List.replicate_succ']
        rfl
    · refine ⟨Dl, List.replicate _ true, rfl, .inl (.inl (by rw [List.map_replicate]; exact p.2)), ?_⟩
      rw [all_true]
      exact ⟨true, rfl, iteF (q _ p.1)⟩
end
end Kf
namespace Kf
open PySem L2
section
variable {Pr : Program} {w : World} {K : PySem.W.Frag} {mg : Str → Option Value} {base : Heap}
/-! ### due_at -/
def ofO : Option Int → V
  | none => .non
  | some k => .int k
theorem ofO_inj {a b : Option Int} (h : ofO a = ofO b) : a = b := by
  cases a with
  | none =>
    cases b with
    | none => rfl
    | some k => cases h
  | some j =>
    cases b with
    | none => cases h
    | some k =>
      injection h with e
      rw [e]
theorem ofO_dec (a b : Option Int) : decide (ofO a = ofO b) = decide (a = b) := by
  by_cases e : a = b
  · rw [decide_eq_true e, decide_eq_true (congrArg ofO e)]
  · rw [decide_eq_false e, decide_eq_false fun z => e (ofO_inj z)]
theorem ofO_scal (a b : Option Int) : scal (ofO a) (ofO b) = true := by
  cases a <;> cases b <;> rfl
theorem ofO_not (a : Option Int) : (!decide (ofO a = .non)) = a.isSome := by
  cases a <;> rfl
def oneT (g : Gd) (f : Fn) (x : P) : Option Int := (f x).map fun k => cost g x + k
def toldTo (g : Gd) (f : Fn) (c : P) (j : Nat) : List Int := ((bes g c).take j).filterMap (oneT g f)
theorem toldTo_all (g : Gd) (f : Fn) (c : P) : toldTo g f c (bes g c).length = told g f c := by
  unfold toldTo told
  rw [List.take_length]
  try rfl
theorem toldTo_next {g : Gd} {f : Fn} {c x : P} {j : Nat} (h : (bes g c)[j]? = some x) : toldTo g f c (j + 1) = toldTo g f c j ++ (oneT g f x).toList := by
  unfold toldTo
  rw [List.take_add_one, h, List.filterMap_append]
  show _ ++ List.filterMap (oneT g f) [x] = _
  rw [List.filterMap_cons, List.filterMap_nil]
  cases oneT g f x <;> rfl
theorem toldTo_len (g : Gd) (f : Fn) (c : P) (j : Nat) : (toldTo g f c j).length ≤ 4 := by
  unfold toldTo
  have h1 := List.length_filterMap_le (oneT g f) ((bes g c).take j)
  have h2 : ((bes g c).take j).length ≤ (bes g c).length := by
    rw [List.length_take]
    exact Nat.min_le_right _ _
  have h3 := bes_len g c
  omega
def spDu (C : Addr) : Sp := fun vs H Q _ => ∃ (p fa : Addr) (g : Gd) (fs : List (Option Int)) (i : Nat), vs = [.ref p, .ref fa, .int (i : Int)] ∧ KnAt C H p g ∧ g.Ok ∧ i < g.n ∧ H fa = some (.tup (fs.map ofO)) ∧ fs.length = g.n ∧
  ∀ H', Same H H' → Q (ofO (due g (look g fs) (cell g i))) H'
abbrev nDu : List Str := ["known", "field", "at", "told", "other"]
theorem scDu : FnScope nDu ["known", "field", "at"] (defScope sDueAt) := ⟨rfl, rfl, rfl, by decide +kernel, rfl, by decide +kernel, by decide +kernel⟩
theorem ok_du {C f f1 f2 : Addr} {fd fd1 fd2 : FuncData} (D : Df K mg "due_at" "due_at" "due_at" sDueAt ["known", "field", "at"] f fd) (T : Ct K mg C) (B : Bi mg)
    (D1 : Mf K C "beside" "Cells.beside" sBeside ["self", "at"] f1 fd1) (F1 : FnOk Pr w K mg base CX0 4 f1 fd1 ["self", "at"] (spBes C))
    (D2 : Mf K C "cost" "Cells.cost" sCost ["self", "at"] f2 fd2) (F2 : FnOk Pr w K mg base CX0 1 f2 fd2 ["self", "at"] (spCos C)) : FnOk Pr w K mg base CX0 5 f fd ["known", "field", "at"] (spDu C) := by
  refine D.F.ok scDu (fun vs H Q E h => ?_) (fun cdv A outer s H vs Q E hr h => ?_)
  · obtain ⟨p, fa, g, fs, i, rfl, _⟩ := h
    rfl
  · obtain ⟨p, fa, g, fs, i, rfl, ⟨dx, hp⟩, ok, hi, hf, hl, q⟩ := h
    have hr1 := hr.mono (by decide : 1 ≤ 4)
    have n36 := ok.n36
    refine ⟨_, pss_cons (ps_setLc (i := 3) (own := [("other", 4)]) (g := gName 4) rfl scDu.nd rfl rfl (sw_true rfl rfl rfl (by decide +kernel)) (pi_list (pe_meth (pv 0) T.cl D1.M F1 hr D1.b .nil pass0 (pa_cons (pv 2) pa_nil)))
          (blkOk_by (own := [("other", 4)]) (N := nDu) (sc := defScope sDueAt) (by decide +kernel)) (fun _ _ _ _ _ => pg_name (i := 4) scDu.nd rfl (Or.inl rfl))
          (fun _ _ _ _ _ => pts_one (pt_cmpR op_notN (pe_ix (r := rIxT K) ix_tup (pv 1) (pv 4) (fun _ _ => rfl)) pe_non (nomark _)))
          (fun _ _ _ _ _ => pe_op op_add (pe_meth (pv 0) T.cl D2.M F2 hr1 D2.b .nil pass0 (pa_cons (pv 4) pa_nil)) (pe_ix (r := rIxT K) ix_tup (pv 1) (pv 4) (fun _ _ => rfl))))
      (pss_cons (ps_if (PW.pt (pw_or (pt_cmpR op_eq (pe_meth (pv 0) T.cl D2.M F2 hr1 D2.b .nil pass0 (pa_cons (pv 2) pa_nil)) pe_int (nomark _)) (pw_or1 (pt_not (pt_truth (pv 3) (by intro _; rfl)))))) (pss_one (ps_ret pe_non)) pss_nil)
      (pss_one (ps_ret (pe_callB (cr_min rfl) (by rfl) B.min (by decide +kernel) (pa_cons (pv 3) pa_nil))))), ?_⟩
    refine ⟨_, rfl, p, dx, _, rfl, hp, no_bes g, _, rfl, p, g, i, rfl, ⟨dx, hp⟩, ok, hi, fun b H1 hb s1 eb => ?_⟩
    refine ⟨b, rfl, ⟨_, SqL.of eb⟩, fun Dl hD => ?_⟩
    refine lc_list (xs := (bes g (cell g i)).map (ixV g)) (fun j H' => Same H1 H' ∧ H' Dl = some (.lst ((toldTo g (look g fs) (cell g i) j).map V.int))) ⟨same_new hD, upd_same⟩ (fun j H' _ z => SqL.of (z.1 _ _ eb)) (fun j x H2 hx z => ?_) fun H2 z => ?_
    · obtain ⟨s2, e2⟩ := z
      have hlt : j < (bes g (cell g i)).length := by
        have := (List.getElem?_eq_some_iff.mp hx).1
        rw [List.length_map] at this
        exact this
      have hbx := List.getElem?_eq_getElem hlt
      generalize hxx : (bes g (cell g i))[j] = xx at hbx
      have ex : x = ixV g xx := by
        rw [List.getElem?_map, hbx] at hx
        exact (Option.some.inj hx).symm
      subst ex
      have hm : xx ∈ bes g (cell g i) := List.mem_of_getElem? hbx
      have hin := cost_in (mem_bes.mp hm).2
      have hix := idx_lt hin
      have hf2 := s2 _ _ (s1 _ _ hf)
      have hp2 := s2 _ _ (s1 _ _ hp)
      have elk : look g fs xx = fs[idx g xx] := by
        unfold look
        rw [List.getElem?_eq_getElem (by rw [hl]; exact hix)]
        rfl
      have ef : (fs.map ofO)[idx g xx]? = some (ofO (look g fs xx)) := by
        rw [List.getElem?_map, List.getElem?_eq_getElem (by rw [hl]; exact hix), elk]
        rfl
      refine ⟨rfl, ?_⟩
      refine ⟨_, rfl, _, rfl, fa, _, _, _, rfl, rfl, SqT.of hf2, atI_nat ef, rfl, _, rfl, ?_⟩
      rw [ofO_not]
      cases eo : look g fs xx with
      | none =>
        refine iteF ?_
        refine ⟨s2, ?_⟩
        rw [toldTo_next hbx]
        have : oneT g (look g fs) xx = none := by
          unfold oneT
          rw [eo]
          rfl
        rw [this]
        show _ = some (HO.lst (List.map V.int (_ ++ [])))
        rw [List.append_nil]
        exact e2
      | some k =>
        refine iteT ?_
        rw [eo] at ef
        refine ⟨_, rfl, p, dx, _, rfl, hp2, no_cos g, _, rfl, p, g, idx g xx, rfl, ⟨dx, hp2⟩, ok, hix, fun H3 s3 => ?_⟩
        rw [cost_idx hin]
        refine ⟨_, rfl, _, rfl, fa, _, _, _, rfl, rfl, SqT.of (s3 _ _ hf2), atI_nat ef, _, _, rfl, rfl, ?_⟩
        refine ⟨_, s3 _ _ e2, ?_, same_at (s2.trans s3) hD, ?_⟩
        · rw [List.length_map]
          have := toldTo_len g (look g fs) (cell g i) j
          exact small1000 (by omega)
        · have : oneT g (look g fs) xx = some (cost g xx + k) := by
            unfold oneT
            rw [eo]
            rfl
          rw [upd_same, toldTo_next hbx, this, List.map_append]
          rfl
    · obtain ⟨s2, e2⟩ := z
      rw [List.length_map, toldTo_all] at e2
      have sH := s1.trans s2
      have hp2 := sH _ _ hp
      refine ⟨_, rfl, p, dx, _, rfl, hp2, no_cos g, _, rfl, p, g, i, rfl, ⟨dx, hp2⟩, ok, hi, fun H3 s3 => ?_⟩
      refine ⟨rfl, _, rfl, ?_⟩
      have e3 := s3 _ _ e2
      have sH3 := sH.trans s3
      by_cases h0 : cost g (cell g i) = 0
      · rw [h0]
        refine iteT (iteT ?_)
        have z := q H3 sH3
        unfold due at z
        rw [if_pos h0] at z
        exact z
      · have hne : decide (V.int (cost g (cell g i)) = V.int 0) = false := decide_eq_false fun z => h0 (by injection z)
        rw [hne]
        refine iteF ?_
        have z := q H3 sH3
        unfold due at z
        rw [if_neg h0] at z
        refine ⟨_, rfl, _, .inl ⟨_, SqL.of e3, rfl⟩, ?_⟩
        cases et : told g (look g fs) (cell g i) with
        | nil =>
          rw [et] at z
          exact iteT z
        | cons y r =>
          refine iteF ?_
          refine ⟨_, rfl, Dl, _, rfl, SqL.of e3, ?_, fun m hm hle => ?_⟩
          · rw [et]
            exact Nat.succ_pos _
          · rw [minL_of hm hle] at z
            exact z
/-! ### passes -/
inductive Arg (H : Hp) : V → Prop
  | tup {a : Addr} {xs : List V} (h : H a = some (.tup xs)) (s : xs.all simple = true) (l : xs.length ≤ 1000) : Arg H (.ref a)
  | lst {a : Addr} {xs : List V} (h : H a = some (.lst xs)) : Arg H (.ref a)
  | non : Arg H .non
  | int (i : Int) : Arg H (.int i)
theorem Same.arg {H H' : Hp} {v : V} (s : Same H H') (h : Arg H v) : Arg H' v := by
  cases h with
  | tup h a b => exact .tup (s _ _ h) a b
  | lst h => exact .lst (s _ _ h)
  | non => exact .non
  | int i => exact .int i
def GoodV (H : Hp) (g : Gd) (ps : List P) (v : V) : Prop := ∃ (a : Addr) (fs : List (Option Int)), v = .ref a ∧ H a = some (.tup (fs.map ofO)) ∧ Good g ps fs
theorem map_ofO_inj : ∀ {a b : List (Option Int)}, a.map ofO = b.map ofO → a = b
  | [], [], _ => rfl
  | [], _ :: _, h => by cases h
  | _ :: _, [], h => by cases h
  | x :: a, y :: b, h => by
    injection h with h1 h2
    rw [ofO_inj h1, map_ofO_inj h2]
theorem goodV_tup {H : Hp} {g : Gd} {ps : List P} {a : Addr} {fs : List (Option Int)} (h : H a = some (.tup (fs.map ofO))) : GoodV H g ps (.ref a) ↔ Good g ps fs := by
  constructor
  · rintro ⟨a', fs', e, h', k⟩
    injection e with e
    subst e
    rw [h] at h'
    injection h' with h'
    injection h' with h'
    rw [map_ofO_inj h']
    exact k
  · intro k
    exact ⟨a, fs, rfl, h, k⟩
def okItem : V → Bool
  | .non => true
  | .int k => decide (0 ≤ k)
  | _ => false
theorem ok_items : ∀ {xs : List V}, xs.all okItem = true → ∃ fs : List (Option Int), xs = fs.map ofO ∧ ∀ k, some k ∈ fs → 0 ≤ k
  | [], _ => ⟨[], rfl, fun _ h => by cases h⟩
  | x :: xs, h => by
    rw [List.all_cons, Bool.and_eq_true] at h
    obtain ⟨fs, e, k⟩ := ok_items h.2
    have h1 := h.1
    cases x with
    | non => exact ⟨none :: fs, by rw [e]; rfl, fun j hj => by
        rcases List.mem_cons.mp hj with z | z
        · cases z
        · exact k j z⟩
    | int i => exact ⟨some i :: fs, by rw [e]; rfl, fun j hj => by
        rcases List.mem_cons.mp hj with z | z
        · injection z with z
          rw [z]
          exact of_decide_eq_true h1
        · exact k j z⟩
    | bl _ => cases h1
    | str _ => cases h1
    | byt _ => cases h1
    | flt _ => cases h1
    | ref _ => cases h1
    | ty _ => cases h1
theorem items_ok : ∀ {fs : List (Option Int)}, (∀ k, some k ∈ fs → 0 ≤ k) → (fs.map ofO).all okItem = true
  | [], _ => rfl
  | none :: fs, h => by
    show (true && (fs.map ofO).all okItem) = true
    rw [items_ok fun k hk => h k (List.mem_cons_of_mem _ hk)]
    rfl
  | some j :: fs, h => by
    show (decide (0 ≤ j) && (fs.map ofO).all okItem) = true
    rw [items_ok fun k hk => h k (List.mem_cons_of_mem _ hk), decide_eq_true (h j List.mem_cons_self)]
    rfl
theorem flat_ofO (a : Option Int) : flatV (ofO a) = true := by cases a <;> rfl
end
end Kf
namespace Kf
open PySem L2
section
variable {Pr : Program} {w : World} {K : PySem.W.Frag} {mg : Str → Option Value} {base : Heap}
/-! ### passes -/
def spPas (C : Addr) : Sp := fun vs H Q _ => ∃ (p ga : Addr) (g : Gd) (ps : List P) (v : V), vs = [.ref p, .ref ga, v] ∧ KnAt C H p g ∧ g.Ok ∧ H ga = some (.lst (ps.map (ixV g))) ∧ (∀ x ∈ ps, inG g x) ∧ Arg H v ∧
  ∀ (b : Bool) (H' : Hp), (b = true ↔ GoodV H g ps v) → Same H H' → Q (.bl b) H'
abbrev nPas : List Str := ["known", "goals", "field", "item", "at"]
theorem scPas : FnScope nPas ["known", "goals", "field"] (defScope sPasses) := ⟨rfl, rfl, rfl, by decide +kernel, rfl, by decide +kernel, by decide +kernel⟩
theorem in_goals {g : Gd} (ok : g.Ok) {ps : List P} (hin : ∀ x ∈ ps, inG g x) {i : Nat} (hi : i < g.n) : inV (.int (i : Int)) (ps.map (ixV g)) = decide (cell g i ∈ ps) := by
  unfold inV
  by_cases h : cell g i ∈ ps
  · rw [decide_eq_true h, List.any_eq_true]
    refine ⟨ixV g (cell g i), List.mem_map.mpr ⟨_, h, rfl⟩, ?_⟩
    show (((idx g (cell g i) : Nat) : Int) == (i : Int)) = true
    rw [idx_cell, beq_self_eq_true]
  · rw [decide_eq_false h]
    cases e : (ps.map (ixV g)).any fun y => eqV y (.int (i : Int)) with
    | false => rfl
    | true =>
      obtain ⟨y, hy, ey⟩ := List.any_eq_true.mp e
      obtain ⟨x, hx, rfl⟩ := List.mem_map.mp hy
      have e1 : (((idx g x : Nat) : Int) == (i : Int)) = true := ey
      have e2 : ((idx g x : Nat) : Int) = (i : Int) := by simpa using e1
      have e3 : idx g x = i := by omega
      refine absurd ?_ h
      rw [← e3, cell_idx (hin x hx)]
      exact hx
theorem flat_goals (g : Gd) (ps : List P) : (ps.map (ixV g)).all flatV = true := by
  rw [List.all_eq_true]
  intro x hx
  obtain ⟨y, _, rfl⟩ := List.mem_map.mp hx
  rfl
theorem ne_zero (a : Option Int) : decide (ofO a = V.int 0) = decide (a = some 0) := ofO_dec a (some 0)
theorem ok_pas {C f f1 f2 f3 : Addr} {fd fd1 fd2 fd3 : FuncData} (D : Df K mg "passes" "passes" "passes" sPasses ["known", "goals", "field"] f fd) (T : Ct K mg C) (B : Bi mg)
    (D1 : Df K mg "is_whole_whole" "is_whole" "is_whole" sWhole1 ["value"] f1 fd1) (F1 : FnOk Pr w K mg base CX0 1 f1 fd1 ["value"] spWo)
    (D2 : Mf K C "cost" "Cells.cost" sCost ["self", "at"] f2 fd2) (F2 : FnOk Pr w K mg base CX0 1 f2 fd2 ["self", "at"] (spCos C))
    (D3 : Df K mg "due_at" "due_at" "due_at" sDueAt ["known", "field", "at"] f3 fd3) (F3 : FnOk Pr w K mg base CX0 5 f3 fd3 ["known", "field", "at"] (spDu C)) : FnOk Pr w K mg base CX0 6 f fd ["known", "goals", "field"] (spPas C) := by
  refine D.F.ok scPas (fun vs H Q E h => ?_) (fun cdv A outer s H vs Q E hr h => ?_)
  · obtain ⟨p, ga, g, ps, v, rfl, _⟩ := h
    rfl
  · obtain ⟨p, ga, g, ps, v, rfl, ⟨dx, hp⟩, ok, hga, hin, hv, q⟩ := h
    have hr1 := hr.mono (by decide : 1 ≤ 5)
    have n36 := ok.n36
    have slen : (gs g).length = g.n := (gs_len g).trans ok.len
    refine ⟨_, pss_cons (ps_if (PW.pt (pw_or (pt_not (pt_val (pe_isT "tuple" B.isi B.tuple (pv 2))))
        (pw_or1 (pt_cmpR op_ne (pe_callB call_len_seq (by rfl) B.len (by decide +kernel) (pa_cons (pv 2) pa_nil)) (pe_callB call_len_str (by rfl) B.len (by decide +kernel) (pa_cons (pe_fld (pv 0) rfl) pa_nil)) (nomark _))))) (pss_one (ps_ret pe_bl)) pss_nil)
      (pss_cons (ps_if (pt_not (pt_val (pe_callB (cr_all rfl) (by rfl) B.all (by decide +kernel) (pa_cons
        (pe_lc (own := [("item", 3)]) (g := gName 3) (tt := tYes) rfl scPas.nd (pi_tup (pv 2)) (blkOk_by (own := [("item", 3)]) (N := nPas) (sc := defScope sPasses) (by decide +kernel))
          (fun _ _ _ _ _ => pg_name (i := 3) scPas.nd rfl (Or.inl rfl)) (fun _ _ _ _ _ => pts_nil)
          (fun _ _ _ _ _ => pe_or (pe_cmpR op_isN (pv 3) pe_non (nomark _)) (pe_one (pe_and (pe_call F1 hr1 (by rfl) D1.m D1.F.kp D1.b .nil pass0 (pa_cons (pv 3) pa_nil)) (pe_one (pe_cmpR op_ge (pv 3) pe_int (nomark _)))))))
        pa_nil)))) (pss_one (ps_ret pe_bl)) pss_nil)
      (pss_cons (ps_for PassesOwn.never rfl (pi_enumT (by rfl) B.enum (pa_cons (pv 2) pa_nil)) (pg_tup rfl (pgs_cons (pg_name (i := 4) scPas.nd rfl (.inl rfl)) (pgs_cons (pg_name (i := 3) scPas.nd rfl (.inl rfl)) pgs_nil)))
        (pss_one (ps_if (PW.pt (pw_and (pt_cmpR op_in_seq (pv 4) (pv 1) rfl) (pw_and1 (pt_cmpR op_gt (pe_meth (pv 0) T.cl D2.M F2 hr1 D2.b .nil pass0 (pa_cons (pv 4) pa_nil)) pe_int (nomark _)))))
          (pss_one (ps_if (pt_cmpR op_ne (pv 3) pe_int (nomark _)) (pss_one (ps_ret pe_bl)) pss_nil))
          (pss_one (ps_if (pt_cmpR op_ne (pv 3) (pe_call F3 hr (by rfl) D3.m D3.F.kp D3.b .nil pass0 (pa_cons (pv 0) (pa_cons (pv 2) (pa_cons (pv 4) pa_nil)))) (nomark _)) (pss_one (ps_ret pe_bl)) pss_nil)))))
      (pss_one (ps_ret pe_bl)))), ?_⟩
    cases hv with
    | non => exact ⟨_, rfl, _, _, _, _, rfl, .base .non, kNT, false, rfl, iteT (q false H ⟨fun z => (nomatch z), fun ⟨_, _, z, _⟩ => (nomatch z)⟩ (Same.refl H))⟩
    | int i => exact ⟨_, rfl, _, _, _, _, rfl, .base (.int _), kIT, false, rfl, iteT (q false H ⟨fun z => (nomatch z), fun ⟨_, _, z, _⟩ => (nomatch z)⟩ (Same.refl H))⟩
    | lst hl =>
      refine ⟨_, rfl, _, _, _, _, rfl, .base (.lst hl), kLT, false, rfl, iteT (q false H ⟨fun z => (nomatch z), fun ⟨a', fs, z, h2, _⟩ => ?_⟩ (Same.refl H))⟩
      injection z with z
      rw [← z, hl] at h2
      cases h2
    | tup ht hs hl1 =>
      rename_i fa xs
      refine ⟨_, rfl, _, _, _, _, rfl, .base (.tup ht), kTT, true, rfl, iteF ?_⟩
      refine ⟨_, rfl, fa, _, rfl, .inr (SqT.of ht), _, rfl, p, C, dx, _, _, rfl, hp, T.cl, T.nS, kf_s g, gs g, rfl, small (by omega), rfl, _, rfl, ?_⟩
      rw [slen]
      by_cases hlen : xs.length = g.n
      rotate_left
      · have hd : decide (V.int ((xs.length : Nat) : Int) = V.int ((g.n : Nat) : Int)) = false := decide_eq_false fun z => hlen (by injection z with z; exact Int.ofNat.inj z)
        rw [hd]
        refine iteT (q false H ⟨fun z => (nomatch z), fun ⟨a', fs, z, h2, h3⟩ => ?_⟩ (Same.refl H))
        injection z with z
        subst z
        rw [ht] at h2
        injection h2 with h2
        injection h2 with h2
        refine absurd ?_ hlen
        rw [h2, List.length_map]
        exact h3.1
      rw [hlen]
      refine iteNS rfl ?_
      -- all(..)
      refine ⟨_, rfl, fa, rfl, ⟨_, SqT.of ht⟩, fun Dl hD => ?_⟩
      refine lc_tup (xs := xs) (fun i H' => Same H H' ∧ H' Dl = some (.lst (((xs.take i).map okItem).map V.bl))) ⟨same_new hD, upd_same⟩ (fun i H' _ z => SqT.of (z.1 _ _ ht)) (fun i x H1 hx z => ?_) fun H1 z => ?_
      · obtain ⟨s1, e1⟩ := z
        have hsx : simple x = true := List.all_eq_true.mp hs x (List.mem_of_getElem? hx)
        have fin : ∃ acc, H1 Dl = some (.lst acc) ∧ acc.length < sizeLine ∧ Same H (upd H1 Dl (.lst (acc ++ [.bl (okItem x)]))) ∧ (upd H1 Dl (.lst (acc ++ [.bl (okItem x)]))) Dl = some (.lst (((xs.take (i + 1)).map okItem).map V.bl)) := by
          refine ⟨_, e1, ?_, same_at s1 hD, ?_⟩
          · rw [List.length_map, List.length_map, List.length_take]
            exact Nat.lt_of_le_of_lt (Nat.min_le_right _ _) (small1000 hl1)
          · rw [upd_same, List.take_add_one, hx, List.map_append, List.map_append]
            rfl
        refine ⟨rfl, yes (iteT ?_)⟩
        refine ⟨_, rfl, rfl, ?_⟩
        cases x with
        | non => exact ⟨true, rfl, iteT fin⟩
        | bl b =>
          refine ⟨false, rfl, iteF ?_⟩
          exact ⟨_, rfl, _, rfl, rfl, false, rfl, iteF fin⟩
        | int j =>
          refine ⟨false, rfl, iteF ?_⟩
          refine ⟨_, rfl, _, rfl, rfl, true, rfl, iteT ?_⟩
          exact ⟨_, rfl, _, _, rfl, rfl, fin⟩
        | str _ => cases hsx
        | byt _ => cases hsx
        | flt _ => cases hsx
        | ref _ => cases hsx
        | ty _ => cases hsx
      · obtain ⟨s1, e1⟩ := z
        rw [List.take_length] at e1
        refine ⟨Dl, xs.map okItem, rfl, SqL.of e1, _, rfl, ?_⟩
        have eall : (xs.map okItem).all id = xs.all okItem := by
          rw [List.all_map]
          rfl
        rw [eall]
        cases hall : xs.all okItem with
        | false =>
          refine iteT (q false H1 ⟨fun z => (nomatch z), fun ⟨a', fs, z, h2, h3⟩ => ?_⟩ s1)
          injection z with z
          subst z
          rw [ht] at h2
          injection h2 with h2
          injection h2 with h2
          rw [h2, items_ok h3.2.1] at hall
          cases hall
        | true =>
          refine iteF ?_
          obtain ⟨fs, rfl, hnn⟩ := ok_items hall
          have hfl : fs.length = g.n := by
            rw [List.length_map] at hlen
            exact hlen
          refine ⟨_, rfl, fa, _, rfl, SqT.of (s1 _ _ ht), ?_⟩
          refine for_it (walk_enumT (K := K) (a := fa) (xs := fs.map ofO)) (fun i σ H' => ∃ d3 d4, σ = [some (.ref p), some (.ref ga), some (.ref fa), d3, d4] ∧ Same H H' ∧ ∀ j, j < i → fs[j]? = some (want g ps (look g fs) (cell g j)))
            ⟨_, _, rfl, s1, fun j hj => absurd hj (Nat.not_lt_zero j)⟩ (fun i σ H' _ z => by obtain ⟨_, _, _, z, _⟩ := z; exact SqT.of (z _ _ ht)) (fun i x σ H2 H3 hi z y => ?_) fun σ H' z => ?_
          · obtain ⟨d3, d4, rfl, s2, done⟩ := z
            obtain ⟨t, x1, x2, rfl, ht0, rfl, e1', e2'⟩ := y
            injection e1' with e1'
            subst e1'
            have hin' : i < fs.length := by
              rw [List.length_map] at hi
              exact hi
            have hi' : i < g.n := by omega
            have hfi := List.getElem?_eq_getElem hin'
            generalize hfx : fs[i] = a at hfi
            have ex2 : x2 = ofO a := by
              have e2' : (fs.map ofO)[i]? = some x2 := e2'
              rw [List.getElem?_map, hfi] at e2'
              exact (Option.some.inj e2').symm
            subst ex2
            have s3 : Same H (upd H2 t (.tup [.int (i : Int), ofO a])) := s2.trans (same_new ht0)
            refine ⟨t, _, rfl, SqT.of upd_same, rfl, _, _, rfl, _, _, rfl, rfl, ?_⟩
            generalize upd H2 t (.tup [.int (i : Int), ofO a]) = H3 at s3 ⊢
            -- what is left once the item is held against its due
            have fin : ∀ (due1 : Option Int) (H4 : Hp), Same H H4 → due1 = want g ps (look g fs) (cell g i) → (if (!decide (ofO a = ofO due1)) = true then Q (.bl false) H4 else
                (∃ d3 d4, ([some (V.ref p), some (V.ref ga), some (V.ref fa), some (ofO a), some (V.int (i : Int))] : L2.St) = [some (.ref p), some (.ref ga), some (.ref fa), d3, d4] ∧ Same H H4 ∧ ∀ j, j < i + 1 → fs[j]? = some (want g ps (look g fs) (cell g j)))) := by
              intro due1 H4 s4 ed
              rw [ofO_dec]
              by_cases e : a = due1
              · rw [decide_eq_true e]
                refine iteF ⟨_, _, rfl, s4, fun j hj => ?_⟩
                by_cases hji : j = i
                · rw [hji, hfi, e, ed]
                · exact done j (by omega)
              · rw [decide_eq_false e]
                refine iteT (q false H4 ⟨fun z => (nomatch z), fun z => ?_⟩ s4)
                have z' := (goodV_tup ht).mp z
                have z2 := z'.2.2 i hi'
                rw [hfi] at z2
                exact absurd ((Option.some.inj z2).trans ed.symm) e
            refine ⟨_, rfl, _, rfl, ga, _, rfl, .inl (SqL.of (s3 _ _ hga)), rfl, flat_goals g ps, _, rfl, ?_⟩
            show (if inV (.int (i : Int)) (ps.map (ixV g)) = true then _ else _)
            rw [in_goals ok hin hi']
            by_cases hg : cell g i ∈ ps
            · rw [decide_eq_true hg]
              refine iteT ?_
              refine ⟨_, rfl, p, dx, _, rfl, s3 _ _ hp, no_cos g, _, rfl, p, g, i, rfl, ⟨dx, s3 _ _ hp⟩, ok, hi', fun H4 s4 => ?_⟩
              refine ⟨_, _, rfl, rfl, _, rfl, ?_⟩
              by_cases hc : 0 < cost g (cell g i)
              · rw [decide_eq_true hc]
                refine iteT ?_
                refine ⟨_, rfl, ofO_scal a (some 0), _, rfl, ?_⟩
                exact fin (some 0) H4 (s3.trans s4) (by unfold want; rw [if_pos ⟨hg, hc⟩])
              · rw [decide_eq_false hc]
                refine iteF ?_
                refine ⟨_, rfl, _, rfl, _, rfl, _, rfl, p, fa, g, fs, i, rfl, ⟨dx, s4 _ _ (s3 _ _ hp)⟩, ok, hi', s4 _ _ (s3 _ _ ht), hfl, fun H5 s5 => ?_⟩
                refine ⟨ofO_scal a _, _, rfl, ?_⟩
                exact fin _ H5 ((s3.trans s4).trans s5) (by unfold want; rw [if_neg fun z => hc z.2])
            · rw [decide_eq_false hg]
              refine iteF (iteF ?_)
              refine ⟨_, rfl, _, rfl, _, rfl, _, rfl, p, fa, g, fs, i, rfl, ⟨dx, s3 _ _ hp⟩, ok, hi', s3 _ _ ht, hfl, fun H5 s5 => ?_⟩
              refine ⟨ofO_scal a _, _, rfl, ?_⟩
              exact fin _ H5 (s3.trans s5) (by unfold want; rw [if_neg fun z => hg z.1])
          · obtain ⟨d3, d4, rfl, s2, done⟩ := z
            rw [List.length_map, hfl] at done
            exact q true H' ⟨fun _ => (goodV_tup ht).mpr ⟨hfl, hnn, done⟩, fun _ => rfl⟩ s2
end
end Kf
namespace Kf
open PySem L2
section
variable {Pr : Program} {w : World} {K : PySem.W.Frag} {mg : Str → Option Value} {base : Heap}
/-! ### is_field -/
def spFie : Sp := fun vs H Q _ => ∃ (a ga : Addr) (g : Gd) (ps : List P) (v : V), vs = [.ref a, .ref ga, v] ∧ GridAt H a g ∧ g.Ok ∧ GoalsAt H ga ps ∧ 1 ≤ ps.length ∧ ps.length ≤ 16 ∧ (∀ x ∈ ps, inG g x) ∧ Arg H v ∧
  ∀ (b : Bool) (H' : Hp), (b = true ↔ GoodV H g ps v) → Same H H' → Q (.bl b) H'
theorem GoodV.same {H H' : Hp} {g : Gd} {ps : List P} {v : V} (s : Same H H') (h : GoodV H g ps v) : GoodV H' g ps v := by
  obtain ⟨a, fs, e, h1, h2⟩ := h
  exact ⟨a, fs, e, s _ _ h1, h2⟩
theorem GoodV.back {H H' : Hp} {g : Gd} {ps : List P} {v : V} (s : Same H H') (ha : Arg H v) (h : GoodV H' g ps v) : GoodV H g ps v := by
  obtain ⟨a, fs, e, h1, h2⟩ := h
  subst e
  cases ha with
  | tup h _ _ =>
    have := s _ _ h
    rw [h1] at this
    exact ⟨a, fs, rfl, h.trans this.symm, h2⟩
  | lst h =>
    have := s _ _ h
    rw [h1] at this
    cases this
abbrev nFie : List Str := ["grid", "goals", "field", "known", "cell"]
theorem scFie : FnScope nFie ["grid", "goals", "field"] (defScope sIsField) := ⟨rfl, rfl, rfl, by decide +kernel, rfl, by decide +kernel, by decide +kernel⟩
theorem ok_fie {C f f1 f2 f3 f4 f5 : Addr} {fd fd1 fd2 fd3 fd4 fd5 : FuncData} (D : Df K mg "is_field" "is_field" "is_field" sIsField ["grid", "goals", "field"] f fd) (T : Ct K mg C)
    (D1 : Df K mg "check_grid" "check_grid" "check_grid" sCheckGrid ["grid"] f1 fd1) (F1 : FnOk Pr w K mg base CX0 3 f1 fd1 ["grid"] spCg)
    (D2 : Mf K C "__init__" "Cells.__init__" sInit ["self", "grid"] f2 fd2) (F2 : FnOk Pr w K mg base CX0 1 f2 fd2 ["self", "grid"] (spIni C))
    (D3 : Df K mg "check_goals" "check_goals" "check_goals" sCheckGoals ["known", "goals"] f3 fd3) (F3 : FnOk Pr w K mg base CX0 4 f3 fd3 ["known", "goals"] (spGo C))
    (D4 : Mf K C "index" "Cells.index" sIndex ["self", "cell"] f4 fd4) (F4 : FnOk Pr w K mg base CX0 1 f4 fd4 ["self", "cell"] (spIdx C))
    (D5 : Df K mg "passes" "passes" "passes" sPasses ["known", "goals", "field"] f5 fd5) (F5 : FnOk Pr w K mg base CX0 6 f5 fd5 ["known", "goals", "field"] (spPas C)) : FnOk Pr w K mg base CX0 7 f fd ["grid", "goals", "field"] spFie := by
  refine D.F.ok scFie (fun vs H Q E h => ?_) (fun cdv A outer s H vs Q E hr h => ?_)
  · obtain ⟨a, ga, g, ps, v, rfl, _⟩ := h
    rfl
  · obtain ⟨a, ga, g, ps, v, rfl, hg, ok, hG, h1, h16, hin, hv, q⟩ := h
    have hr1 := hr.mono (by decide : 1 ≤ 6)
    refine ⟨_, pss_cons (ps_expr (pe_call F1 (hr.mono (by decide)) (by rfl) D1.m D1.F.kp D1.b .nil pass0 (pa_cons (pv 0) pa_nil)))
      (pss_cons (ps_set (i := 3) scFie.nd rfl (.inr rfl) (pe_make ⟨T.mks, D2.M.at_, D2.M.fn, T.kc⟩ F2 (hr.mono (by decide)) (by rfl) T.m D2.b .nil pass0 (pa_cons (pv 0) pa_nil)))
      (pss_cons (ps_expr (pe_call F3 (hr.mono (by decide)) (by rfl) D3.m D3.F.kp D3.b .nil pass0 (pa_cons (pv 3) (pa_cons (pv 1) pa_nil))))
      (pss_one (ps_ret (pe_call F5 hr (by rfl) D5.m D5.F.kp D5.b .nil pass0 (pa_cons (pv 3) (pa_cons
        (pe_lc (own := [("cell", 4)]) (g := gName 4) (tt := tYes) rfl scFie.nd (pi_tup (pv 1)) (blkOk_by (own := [("cell", 4)]) (N := nFie) (sc := defScope sIsField) (by decide +kernel))
          (fun _ _ _ _ _ => pg_name (i := 4) scFie.nd rfl (Or.inl rfl)) (fun _ _ _ _ _ => pts_nil) (fun _ _ _ _ _ => pe_meth (pv 3) T.cl D4.M F4 hr1 D4.b .nil pass0 (pa_cons (pv 4) pa_nil)))
        (pa_cons (pv 2) pa_nil)))))))), ?_⟩
    refine ⟨_, rfl, a, g, rfl, hg, ok, fun H1 s1 => ?_⟩
    refine ⟨_, rfl, fun p dx hp hdx hne => ?_⟩
    have npd : p ≠ dx := fun z => hne z.symm
    have s2 : Same H1 (upd (upd H1 dx (.own p)) p (.ins C dx [])) := same_at (same_new hdx) hp
    refine ⟨p, a, dx, g, rfl, upd_same, s2 _ _ (s1 _ _ hg), fun H2 hk k2 => ⟨rfl, ?_⟩⟩
    have s3 : Same H H2 := s1.trans fun b o e => k2 b o (s2 _ _ e) (ne_of_none e hp)
    have hG2 := Same.goals s3 hG
    refine ⟨_, rfl, _, rfl, p, ga, g, ps, rfl, ⟨dx, hk⟩, hG2, h1, h16, hin, fun H3 s4 => ?_⟩
    have hk3 := s4 _ _ hk
    have s5 := s3.trans s4
    obtain ⟨as, hga, hal, hpt⟩ := Same.goals s4 hG2
    refine ⟨_, rfl, _, rfl, ga, rfl, ⟨_, SqT.of hga⟩, fun Dl hD => ?_⟩
    refine lc_tup (xs := as.map V.ref) (fun i H' => Same H3 H' ∧ H' Dl = some (.lst ((ps.take i).map (ixV g)))) ⟨same_new hD, upd_same⟩ (fun i H' _ z => SqT.of (z.1 _ _ hga)) (fun i x H4 hx z => ?_) fun H4 z => ?_
    · obtain ⟨s6, e6⟩ := z
      have hlt : i < ps.length := by
        have := (List.getElem?_eq_some_iff.mp hx).1
        rw [List.length_map, hal] at this
        exact this
      have hpi := List.getElem?_eq_getElem hlt
      obtain ⟨b, eb, hb⟩ := hpt i _ hpi
      have ex : x = .ref b := by
        rw [List.getElem?_map, eb] at hx
        exact (Option.some.inj hx).symm
      subst ex
      have hgi : inG g ps[i] := hin _ (List.getElem_mem hlt)
      refine ⟨rfl, yes (iteT ?_)⟩
      have hp6 := s6 _ _ hk3
      refine ⟨_, rfl, p, dx, _, rfl, hp6, no_idx g, _, rfl, p, b, g, ps[i].1, ps[i].2, rfl, ⟨dx, hp6⟩, ok, s6 _ _ hb, ?_⟩
      refine ⟨_, e6, ?_, same_at s6 hD, ?_⟩
      · rw [List.length_map, List.length_take]
        exact Nat.lt_of_le_of_lt (Nat.min_le_right _ _) (small1000 (by omega))
      · rw [upd_same, List.take_add_one, hpi, List.map_append, idx_int hgi]
        rfl
    · obtain ⟨s6, e6⟩ := z
      rw [List.length_map, hal, List.take_length] at e6
      have s7 := s5.trans s6
      refine ⟨_, rfl, p, Dl, g, ps, v, rfl, ⟨dx, s6 _ _ hk3⟩, ok, e6, hin, Same.arg s7 hv, fun b H5 hb s8 => ?_⟩
      exact q b H5 (hb.trans ⟨GoodV.back s7 hv, GoodV.same s7⟩) (s7.trans s8)
/-! ### the stream of draws -/
def SameBut (S : Addr) (H H' : Hp) : Prop := ∀ b o, H b = some o → b ≠ S → H' b = some o
theorem SameBut.refl (S : Addr) (H : Hp) : SameBut S H H := fun _ _ h _ => h
theorem SameBut.trans {S : Addr} {H H1 H2 : Hp} (a : SameBut S H H1) (b : SameBut S H1 H2) : SameBut S H H2 := fun c o h n => b c o (a c o h n) n
theorem Same.but {S : Addr} {H H' : Hp} (s : Same H H') : SameBut S H H' := fun c o h _ => s c o h
theorem SameBut.upd {S : Addr} {H H' : Hp} {o : HO} (s : SameBut S H H') : SameBut S H (upd H' S o) := fun c x h n => by
  rw [upd_ne n]
  exact s c x h n
theorem SameBut.new {S : Addr} {H H' : Hp} {p : Addr} {o : HO} (s : SameBut S H H') (h : H' p = none) : SameBut S H (L2.upd H' p o) := fun c x e n => by
  have z := s c x e n
  rw [upd_ne (ne_of_none z h)]
  exact z
/-- the stream at S: the script's list, the number at hand, the place -/
def StrAt (H : Hp) (S L : Addr) : Prop := ∃ (ns : List Int) (c : Int) (k : Nat), H S = some (.lst [.ref L, .int c, .int (k : Int)]) ∧ H L = some (.lst (ns.map V.int)) ∧ L ≠ S ∧ 0 ≤ c
theorem Same.str {H H' : Hp} {S L : Addr} (s : Same H H') (h : StrAt H S L) : StrAt H' S L := by
  obtain ⟨ns, c, k, h1, h2, h3, h4⟩ := h
  exact ⟨ns, c, k, s _ _ h1, s _ _ h2, h3, h4⟩
theorem StrAt.ne {H : Hp} {S L b : Addr} {o : HO} (h : StrAt H S L) (e : H b = some o) (d : ∀ xs, o ≠ .lst xs) : b ≠ S := by
  obtain ⟨ns, c, k, h1, _⟩ := h
  exact ne_of e h1 (d _)
/-- neither the stream nor its list is at a fresh address -/
theorem StrAt.fresh {H : Hp} {S L p : Addr} (h : StrAt H S L) (e : H p = none) : p ≠ S ∧ p ≠ L := by
  obtain ⟨ns, c, k, h1, h2, _⟩ := h
  exact ⟨(ne_of_none h1 e).symm, (ne_of_none h2 e).symm⟩
theorem StrAt.wr {H : Hp} {S L p : Addr} {o : HO} (h : StrAt H S L) (n : p ≠ S ∧ p ≠ L) : StrAt (upd H p o) S L := by
  obtain ⟨ns, c, k, h1, h2, h3, h4⟩ := h
  exact ⟨ns, c, k, by rw [upd_ne n.1.symm]; exact h1, by rw [upd_ne n.2.symm]; exact h2, h3, h4⟩
/-- a write to a fresh address leaves the stream -/
theorem StrAt.new {H : Hp} {S L p : Addr} {o : HO} (h : StrAt H S L) (hp : H p = none) : StrAt (upd H p o) S L := Same.str (same_new hp) h
def spSt (K : PySem.W.Frag) : Sp := fun vs H Q _ => ∃ (a : Addr) (ns : List Int), vs = [.ref a] ∧ SqL K H a (ns.map V.int) ∧ ∀ S L H', H S = none → Same H H' → StrAt H' S L → Q (.ref S) H'
theorem scSt : FnScope ["_law_script"] ["_law_script"] (defScope sStream) := ⟨rfl, rfl, rfl, by decide +kernel, rfl, by decide +kernel, by decide +kernel⟩
theorem ok_st {f : Addr} {fd : FuncData} (D : Df K mg "_law_stream" "_law_stream" "_law_stream" sStream ["_law_script"] f fd) (B : Bi mg) : FnOk Pr w K mg base CX0 1 f fd ["_law_script"] (spSt K) := by
  refine D.F.ok scSt (fun vs H Q E h => ?_) (fun cdv A outer s H vs Q E hr h => ?_)
  · obtain ⟨a, ns, rfl, _⟩ := h
    rfl
  · obtain ⟨a, ns, rfl, ha, q⟩ := h
    refine ⟨_, pss_one (ps_ret (pe_lst (pa_cons (pe_callTy call_list_of (by rfl) B.list (by decide +kernel) (pa_cons (pv 0) pa_nil)) (pa_cons pe_int (pa_cons pe_int pa_nil))))), ?_⟩
    refine ⟨_, rfl, a, _, rfl, .inl ha, fun L hL => ⟨(by show 3 ≤ sizeLine; decide), fun S hS => ?_⟩⟩
    have sL : Same H (upd H L (.lst (ns.map V.int))) := same_new hL
    have nLS : L ≠ S := fun z => by
      rw [← z, upd_same] at hS
      cases hS
    refine q S L _ (sL.free hS) (same_at sL (sL.free hS)) ⟨ns, 0, 0, upd_same, ?_, nLS, Int.le_refl 0⟩
    rw [upd_ne nLS]
    exact upd_same
def spNx : Sp := fun vs H Q _ => ∃ (S L : Addr) (m : Int), vs = [.ref S, .int m] ∧ StrAt H S L ∧ 0 < m ∧ m ≤ 1000 ∧ ∀ (d : Int) (H' : Hp), 0 ≤ d → d < m → StrAt H' S L → SameBut S H H' → Q (.int d) H'
abbrev nNx : List Str := ["_law_stream_here", "_law_many", "_law_k", "_law_cell", "_law_digit"]
theorem scNx : FnScope nNx ["_law_stream_here", "_law_many"] (defScope sNext) := ⟨rfl, rfl, rfl, by decide +kernel, rfl, by decide +kernel, by decide +kernel⟩
theorem big0 : (0 : Int) < 2147483647 := by decide
theorem ix3_1 : ixN 3 1 = some 1 := rfl
theorem ix3_2 : ixN 3 2 = some 2 := rfl
theorem ok_nx {f : Addr} {fd : FuncData} (D : Df K mg "_law_next" "_law_next" "_law_next" sNext ["_law_stream_here", "_law_many"] f fd) (B : Bi mg) : FnOk Pr w K mg base CX0 1 f fd ["_law_stream_here", "_law_many"] spNx := by
  refine D.F.ok scNx (fun vs H Q E h => ?_) (fun cdv A outer s H vs Q E hr h => ?_)
  · obtain ⟨S, L, m, rfl, _⟩ := h
    rfl
  · obtain ⟨S, L, m, rfl, ⟨ns, c, k, hS, hL, hne, hc⟩, hm, hm2, q⟩ := h
    refine ⟨_, Evl.pss_cut (ps_if (pt_cmpR op_eq (pe_ix ix_list (pv 0) pe_int (fun _ _ => rfl)) pe_int (nomark _))
        (pss_cons (ps_set (i := 2) scNx.nd rfl (.inl rfl) (pe_ix ix_list (pv 0) pe_int (fun _ _ => rfl)))
        (pss_cons (ps_set (i := 3) scNx.nd rfl (.inl rfl) (pe_op op_add pe_int (pv 2)))
        (Evl.pss_cut (ps_if (pt_cmpR op_lt (pv 2) (pe_callB call_len_seq (by rfl) B.len (by decide +kernel) (pa_cons (pe_ix ix_list (pv 0) pe_int (fun _ _ => rfl)) pa_nil)) (nomark _))
          (pss_one (ps_set (i := 3) scNx.nd rfl (.inl rfl) (pe_callB call_abs (by rfl) B.abs (by decide +kernel) (pa_cons (pe_ix ix_list (pe_ix ix_list (pv 0) pe_int (fun _ _ => rfl)) (pv 2) (fun _ _ => rfl)) pa_nil)))) pss_nil)
        (Evl.pss_cut (ps_if (pt_cmpR op_lt (pv 3) (pe_op op_pow pe_int pe_int) (nomark _))
          (pss_cons (ps_set (i := 3) scNx.nd rfl (.inl rfl) (pe_op op_mod (pe_callTy call_int1 (by rfl) B.int (by decide +kernel) (pa_cons (pe_op op_add (pe_op op_add (pe_op op_mul (pv 3) pe_int) (pe_op op_mul (pv 2) pe_int)) pe_int) pa_nil)) pe_int))
          (pss_one (ps_set (i := 3) scNx.nd rfl (.inl rfl) (pe_op op_add (pe_op op_mul (pe_op op_mod (pe_callTy call_int1 (by rfl) B.int (by decide +kernel) (pa_cons (pe_op op_add (pe_op op_mul (pv 3) pe_int) pe_int) pa_nil)) pe_int) pe_int) (pv 3))))) pss_nil)
        (pss_cons (ps_asg (pv 3) (pg_sub (pv 0) pe_int set_list))
        (pss_one (ps_asg (pe_op op_add (pv 2) pe_int) (pg_sub (pv 0) pe_int set_list)))))))) pss_nil)
      (pss_cons (ps_set (i := 4) scNx.nd rfl (.inl rfl) (pe_op op_mod (pe_callTy call_int1 (by rfl) B.int (by decide +kernel) (pa_cons (pe_ix ix_list (pv 0) pe_int (fun _ _ => rfl)) pa_nil)) (pv 1)))
      (pss_cons (ps_asg (pe_op op_fdiv (pe_ix ix_list (pv 0) pe_int (fun _ _ => rfl)) (pv 1)) (pg_sub (pv 0) pe_int set_list))
      (pss_one (ps_ret (pv 4))))), ?_⟩
    refine ⟨fun σ H' => ∃ (d2 d3 : Option V) (c' : Int) (k' : Nat), σ = [some (.ref S), some (.int m), d2, d3, none] ∧ 0 ≤ c' ∧ H' S = some (.lst [.ref L, .int c', .int (k' : Int)]) ∧ SameBut S H H', ?_, fun σ H' z => ?_⟩
    · refine ⟨_, rfl, S, _, 1, _, rfl, rfl, SqL.of hS, atI_nat (j := 1) rfl, rfl, _, rfl, ?_⟩
      by_cases h0 : c = 0
      rotate_left
      · rw [decide_eq_false fun z => h0 (by injection z)]
        exact iteF ⟨none, none, c, k, rfl, hc, hS, SameBut.refl S H⟩
      rw [h0]
      refine iteT ?_
      refine ⟨_, rfl, S, _, 2, _, rfl, rfl, SqL.of hS, atI_nat (j := 2) rfl, ?_⟩
      refine ⟨_, rfl, _, _, rfl, rfl, ?_⟩
      refine ⟨fun σ H' => ∃ c2 : Int, σ = [some (.ref S), some (.int m), some (.int (k : Int)), some (.int c2), none] ∧ H' = H ∧ 0 ≤ c2, ?_, fun σ H' z => ?_⟩
      · refine ⟨_, rfl, _, rfl, S, _, 0, _, rfl, rfl, SqL.of hS, atI_nat (j := 0) rfl, L, _, rfl, .inl (SqL.of hL), _, _, rfl, rfl, _, rfl, ?_⟩
        rw [List.length_map]
        by_cases hk : (k : Int) < ((ns.length : Nat) : Int)
        · rw [decide_eq_true hk]
          have hk2 : k < ns.length := by omega
          refine iteT ?_
          refine ⟨_, rfl, S, _, 0, _, rfl, rfl, SqL.of hS, atI_nat (j := 0) rfl, _, rfl, L, _, _, .int ns[k], rfl, rfl, SqL.of hL, atI_nat (j := k) (by rw [List.getElem?_map, List.getElem?_eq_getElem hk2]; rfl), _, rfl, ?_⟩
          refine ⟨_, rfl, rfl, ?_⟩
          split <;> omega
        · rw [decide_eq_false hk]
          exact iteF ⟨_, rfl, rfl, by omega⟩
      obtain ⟨c2, rfl, rfl, h2⟩ := z
      refine ⟨fun σ H2 => ∃ c3 : Int, σ = [some (.ref S), some (.int m), some (.int (k : Int)), some (.int c3), none] ∧ H2 = H' ∧ 0 ≤ c3, ?_, fun σ H2 z => ?_⟩
      · refine ⟨_, rfl, _, _, rfl, rfl, ⟨by decide, by decide, by decide⟩, _, _, rfl, rfl, _, rfl, ?_⟩
        by_cases hb : c2 < (10 : Int) ^ (18 : Int).toNat
        · rw [decide_eq_true hb]
          refine iteT ?_
          refine ⟨_, rfl, _, _, rfl, rfl, .inr ⟨by decide, by decide⟩, _, rfl, _, _, rfl, rfl, .inr ⟨by decide, by decide⟩, _, _, rfl, rfl, _, _, rfl, rfl, .inl ⟨_, rfl, _, _, rfl, rfl, big0, ?_⟩⟩
          have p1 := Int.emod_nonneg (c2 * 48271 + (k : Int) * 69621 + 11) (show (2147483647 : Int) ≠ 0 by decide)
          generalize (c2 * 48271 + (k : Int) * 69621 + 11) % 2147483647 = c4 at p1 ⊢
          refine ⟨_, rfl, _, _, rfl, rfl, .inr ⟨by decide, by decide⟩, _, _, rfl, rfl, .inl ⟨_, rfl, _, _, rfl, rfl, big0, _, _, rfl, rfl, .inr ⟨by decide, by decide⟩, _, rfl, _, _, rfl, rfl, ?_⟩⟩
          have p2 := Int.emod_nonneg (c4 * 16807 + 13) (show (2147483647 : Int) ≠ 0 by decide)
          generalize (c4 * 16807 + 13) % 2147483647 = c5 at p2 ⊢
          exact ⟨_, rfl, rfl, by omega⟩
        · rw [decide_eq_false hb]
          exact iteF ⟨_, rfl, rfl, h2⟩
      obtain ⟨c3, rfl, rfl, h3⟩ := z
      refine ⟨_, rfl, _, rfl, S, _, 1, 1, rfl, rfl, hS, ix3_1, ?_⟩
      refine ⟨_, rfl, _, _, rfl, rfl, _, rfl, S, _, 2, 2, rfl, rfl, upd_same, ix3_2, ?_⟩
      refine ⟨_, _, c3, k + 1, rfl, h3, ?_, ((SameBut.refl S H2).upd).upd⟩
      rw [upd_same]
      rfl
    · obtain ⟨d2, d3, c', k', rfl, hc', hS', sb⟩ := z
      have hL' := sb _ _ hL hne
      refine ⟨_, rfl, S, _, 1, _, rfl, rfl, SqL.of hS', atI_nat (j := 1) rfl, .inl ⟨_, rfl, _, rfl, _, _, rfl, rfl, hm, ?_⟩⟩
      refine ⟨_, rfl, S, _, 1, _, rfl, rfl, SqL.of hS', atI_nat (j := 1) rfl, _, rfl, _, _, rfl, rfl, ⟨hm, by omega⟩, ?_⟩
      refine ⟨_, rfl, S, _, 1, 1, rfl, rfl, hS', ix3_1, ?_⟩
      refine ⟨_, rfl, q _ _ (Int.emod_nonneg _ (by omega)) (Int.emod_lt_of_pos _ hm) ⟨ns, c' / m, k', upd_same, ?_, hne, Int.ediv_nonneg hc' (by omega)⟩ sb.upd⟩
      rw [upd_ne hne]
      exact hL'
end
end Kf
namespace Kf
open PySem L2
section
variable {Pr : Program} {w : World} {K : PySem.W.Frag} {mg : Str → Option Value} {base : Heap}
/-! ### _law_place -/
def spPl : Sp := fun vs H Q _ => ∃ (S L a : Addr) (g : Gd), vs = [.ref S, .ref a] ∧ StrAt H S L ∧ GridAt H a g ∧ g.Ok ∧
  ∀ (t : Addr) (x : P) (H' : Hp), inG g x → H t = none → H' t = some (pairT x) → StrAt H' S L → SameBut S H H' → Q (.ref t) H'
theorem scPl : FnScope ["_law_stream_here", "_law_grid_here"] ["_law_stream_here", "_law_grid_here"] (defScope sPlace) := ⟨rfl, rfl, rfl, by decide +kernel, rfl, by decide +kernel, by decide +kernel⟩
theorem SameBut.free {S L : Addr} {H H' : Hp} (s : SameBut S H H') (hs : StrAt H' S L) {p : Addr} (h : H' p = none) : H p = none := by
  cases e : H p with
  | none => rfl
  | some o =>
    rw [s p o e (hs.fresh h).1] at h
    cases h
theorem ok_pl {f f1 : Addr} {fd fd1 : FuncData} (D : Df K mg "_law_place" "_law_place" "_law_place" sPlace ["_law_stream_here", "_law_grid_here"] f fd)
    (D1 : Df K mg "_law_next" "_law_next" "_law_next" sNext ["_law_stream_here", "_law_many"] f1 fd1) (F1 : FnOk Pr w K mg base CX0 1 f1 fd1 ["_law_stream_here", "_law_many"] spNx) : FnOk Pr w K mg base CX0 2 f fd ["_law_stream_here", "_law_grid_here"] spPl := by
  refine D.F.ok scPl (fun vs H Q E h => ?_) (fun cdv A outer s H vs Q E hr h => ?_)
  · obtain ⟨S, L, a, g, rfl, _⟩ := h
    rfl
  · obtain ⟨S, L, a, g, rfl, hS, hg, ok, q⟩ := h
    have w1 := ok.w1
    have w6 := ok.w6
    have r1 := ok.r1
    have r6 := ok.r6
    refine ⟨_, pss_one (ps_ret (pe_tup (pa_cons (pe_call F1 hr (by rfl) D1.m D1.F.kp D1.b .nil pass0 (pa_cons (pv 0) (pa_cons (pe_ix ix_tup (pv 1) pe_int (fun _ _ => rfl)) pa_nil)))
      (pa_cons (pe_call F1 hr (by rfl) D1.m D1.F.kp D1.b .nil pass0 (pa_cons (pv 0) (pa_cons (pe_ix ix_tup (pv 1) pe_int (fun _ _ => rfl)) pa_nil))) pa_nil)))), ?_⟩
    refine ⟨_, rfl, _, rfl, a, _, 0, _, rfl, rfl, SqT.of hg, atI_nat (j := 0) rfl, S, L, _, rfl, hS, by omega, by omega, fun d1 H1 h0 h1 hS1 s1 => ?_⟩
    have na : a ≠ S := hS.ne hg (fun _ z => by cases z)
    have hg1 : GridAt H1 a g := s1 _ _ hg na
    refine ⟨_, rfl, _, rfl, a, _, 1, _, rfl, rfl, SqT.of hg1, atI_nat (j := 1) rfl, S, L, _, rfl, hS1, by omega, by omega, fun d2 H2 h2 h3 hS2 s2 => ?_⟩
    refine ⟨(by show 2 ≤ sizeLine; decide), fun t ht => ?_⟩
    have s12 := s1.trans s2
    exact q t (d1, d2) _ ⟨h0, h1, h2, h3⟩ (s12.free hS2 ht) upd_same (hS2.new ht) (s12.new ht)
/-! ### _law_cells -/
def RefsAt (H : Hp) (as : List Addr) (ps : List P) : Prop := as.length = ps.length ∧ ∀ (i : Nat) (x : P), ps[i]? = some x → ∃ a, as[i]? = some a ∧ H a = some (pairT x)
def ListAt (H : Hp) (l : Addr) (ps : List P) : Prop := ∃ as : List Addr, H l = some (.lst (as.map V.ref)) ∧ RefsAt H as ps
theorem RefsAt.keep {H H' : Hp} {as : List Addr} {ps : List P} (h : RefsAt H as ps) (k : ∀ a x, H a = some (pairT x) → H' a = some (pairT x)) : RefsAt H' as ps := by
  refine ⟨h.1, fun i x e => ?_⟩
  obtain ⟨a, ea, ha⟩ := h.2 i x e
  exact ⟨a, ea, k a x ha⟩
theorem RefsAt.snoc {H : Hp} {as : List Addr} {ps : List P} (h : RefsAt H as ps) {a : Addr} {x : P} (ha : H a = some (pairT x)) : RefsAt H (as ++ [a]) (ps ++ [x]) := by
  refine ⟨by rw [List.length_append, List.length_append, h.1]; rfl, fun i y e => ?_⟩
  by_cases hi : i < ps.length
  · rw [List.getElem?_append_left hi] at e
    obtain ⟨b, eb, hb⟩ := h.2 i y e
    exact ⟨b, by rw [List.getElem?_append_left (by rw [h.1]; exact hi)]; exact eb, hb⟩
  · have hi2 : ps.length ≤ i := Nat.le_of_not_lt hi
    rw [List.getElem?_append_right hi2] at e
    refine ⟨a, ?_, ?_⟩
    · rw [List.getElem?_append_right (by rw [h.1]; exact hi2), h.1]
      have : i - ps.length = 0 := by
        have := (List.getElem?_eq_some_iff.mp e).1
        rw [List.length_singleton] at this
        omega
      rw [this]
      rfl
    · have : i - ps.length = 0 := by
        have := (List.getElem?_eq_some_iff.mp e).1
        rw [List.length_singleton] at this
        omega
      rw [this] at e
      have e2 : x = y := Option.some.inj e
      rw [← e2]
      exact ha
theorem RefsAt.at_ {H : Hp} {as : List Addr} {ps : List P} (h : RefsAt H as ps) {i : Nat} {v : V} (e : (as.map V.ref)[i]? = some v) : ∃ a x, v = .ref a ∧ ps[i]? = some x ∧ H a = some (pairT x) := by
  have hi : i < ps.length := by
    have := (List.getElem?_eq_some_iff.mp e).1
    rw [List.length_map, h.1] at this
    exact this
  obtain ⟨a, ea, ha⟩ := h.2 i _ (List.getElem?_eq_getElem hi)
  rw [List.getElem?_map, ea] at e
  exact ⟨a, ps[i], (Option.some.inj e).symm, List.getElem?_eq_getElem hi, ha⟩
def spCe : Sp := fun vs H Q _ => ∃ (a : Addr) (g : Gd), vs = [.ref a] ∧ GridAt H a g ∧ g.Ok ∧ ∀ l H', H l = none → Same H H' → ListAt H' l (cl g) → Q (.ref l) H'
abbrev nCe : List Str := ["_law_grid_here", "_law_found", "_law_row", "_law_column"]
theorem scCe : FnScope nCe ["_law_grid_here"] (defScope sCells) := ⟨rfl, rfl, rfl, by decide +kernel, rfl, by decide +kernel, by decide +kernel⟩
def clTo (g : Gd) (k : Nat) : List P := (List.range k).map (cell g)
theorem clTo_next (g : Gd) (k : Nat) : clTo g (k + 1) = clTo g k ++ [cell g k] := by
  unfold clTo
  rw [List.range_succ, List.map_append]
  rfl
theorem clTo_len (g : Gd) (k : Nat) : (clTo g k).length = k := by
  unfold clTo
  rw [List.length_map, List.length_range]
theorem ok_ce {f : Addr} {fd : FuncData} (D : Df K mg "_law_cells" "_law_cells" "_law_cells" sCells ["_law_grid_here"] f fd) (B : Bi mg) : FnOk Pr w K mg base CX0 1 f fd ["_law_grid_here"] spCe := by
  refine D.F.ok scCe (fun vs H Q E h => ?_) (fun cdv A outer s H vs Q E hr h => ?_)
  · obtain ⟨a, g, rfl, _⟩ := h
    rfl
  · obtain ⟨a, g, rfl, hg, ok, q⟩ := h
    have w6 := ok.w6
    have r6 := ok.r6
    refine ⟨_, pss_cons (ps_set (i := 1) scCe.nd rfl (.inl rfl) (pe_lst pa_nil))
      (pss_cons (ps_for PassesOwn.never rfl (pi_range1 (by rfl) B.range (pa_cons (pe_ix ix_tup (pv 0) pe_int (fun _ _ => rfl)) pa_nil)) (pg_name (i := 2) scCe.nd rfl (.inl rfl))
        (pss_one (ps_for PassesOwn.never rfl (pi_range1 (by rfl) B.range (pa_cons (pe_ix ix_tup (pv 0) pe_int (fun _ _ => rfl)) pa_nil)) (pg_name (i := 3) scCe.nd rfl (.inl rfl))
          (pss_one (ps_expr (pe_bm PySem.F.plainAttrs_list PySem.F.slot_list_append PySem.F.type_list_append mt_append (pv 1) (pa_cons (pe_tup (pa_cons (pv 3) (pa_cons (pv 2) pa_nil))) pa_nil)))))))
      (pss_one (ps_ret (pv 1)))), ?_⟩
    refine ⟨Nat.zero_le _, fun l hl => ?_⟩
    have hg0 : GridAt (upd H l (.lst [])) a g := same_new hl _ _ hg
    refine ⟨_, rfl, a, _, 1, _, rfl, rfl, SqT.of hg0, atI_nat (j := 1) rfl, _, rfl, by omega, by omega, ?_⟩
    refine for_range (lo := 0) (n := ((g.r : Int)).toNat) (fun i σ H' => ∃ d2 d3, σ = [some (.ref a), some (.ref l), d2, d3] ∧ Same H H' ∧ ListAt H' l (clTo g (i * g.w)))
      ⟨none, none, rfl, same_new hl, [], upd_same, by rw [Nat.zero_mul]; rfl, fun i x e => by rw [Nat.zero_mul] at e; cases e⟩ (fun i σ H1 hi z => ?_) fun σ H1 z => ?_
    · obtain ⟨d2, d3, rfl, s1, hL⟩ := z
      have hir : i < g.r := by omega
      refine ⟨_, rfl, a, _, 0, _, rfl, rfl, SqT.of (s1 _ _ hg), atI_nat (j := 0) rfl, _, rfl, by omega, by omega, ?_⟩
      refine for_range (lo := 0) (n := ((g.w : Int)).toNat) (fun j σ H' => ∃ d3, σ = [some (.ref a), some (.ref l), some (.int (0 + (i : Int))), d3] ∧ Same H H' ∧ ListAt H' l (clTo g (i * g.w + j)))
        ⟨d3, rfl, s1, hL⟩ (fun j σ H2 hj z => ?_) fun σ H2 z => ?_
      · obtain ⟨d3, rfl, s2, as, ea, hr2⟩ := z
        have hjw : j < g.w := by omega
        refine ⟨_, rfl, .inl ⟨rfl, _, SqL.of ea⟩, _, rfl, _, rfl, (by show 2 ≤ sizeLine; decide), fun t ht => ?_⟩
        have et : (upd H2 t (.tup [.int (0 + (j : Int)), .int (0 + (i : Int))])) t = some (pairT (cell g (i * g.w + j))) := by
          rw [upd_same, cell_at hjw, Int.zero_add, Int.zero_add]
          rfl
        have s3 : Same H2 (upd H2 t (.tup [.int (0 + (j : Int)), .int (0 + (i : Int))])) := same_new ht
        generalize upd H2 t (.tup [.int (0 + (j : Int)), .int (0 + (i : Int))]) = H3 at et s3 ⊢
        have alen : as.length ≤ 1000 := by
          rw [hr2.1, clTo_len]
          have : i * g.w ≤ g.r * g.w := Nat.mul_le_mul_right _ (Nat.le_of_lt hir)
          have h2 := ok.n36
          have h3 : g.r * g.w = g.w * g.r := Nat.mul_comm _ _
          have h4 : g.n = g.w * g.r := rfl
          omega
        refine ⟨l, _, _, rfl, rfl, s3 _ _ ea, small1000 (by rw [List.length_map]; exact alen), ?_⟩
        refine ⟨_, rfl, same_at (s2.trans s3) hl, as ++ [t], ?_, ?_⟩
        · rw [upd_same, List.map_append]
          rfl
        · have : i * g.w + (j + 1) = (i * g.w + j) + 1 := by omega
          rw [this, clTo_next]
          have hne : ∀ b x, H3 b = some (pairT x) → b ≠ l := fun b x e => ne_of e (s3 _ _ ea) (by intro z; cases z)
          refine ((hr2.keep fun b x e => s3 _ _ e).snoc et).keep fun b x e => ?_
          rw [upd_ne (hne b x e)]
          exact e
      · obtain ⟨d3, rfl, s2, hL2⟩ := z
        refine ⟨_, _, rfl, s2, ?_⟩
        have e1 : ((g.w : Int)).toNat = g.w := Int.toNat_natCast _
        have e2 : (i + 1) * g.w = i * g.w + g.w := Nat.succ_mul _ _
        rw [e1] at hL2
        rw [e2]
        exact hL2
    · obtain ⟨d2, d3, rfl, s1, hL⟩ := z
      have e1 : ((g.r : Int)).toNat = g.r := Int.toNat_natCast _
      rw [e1, Nat.mul_comm] at hL
      exact ⟨_, rfl, q l H1 hl s1 hL⟩
/-! ### _law_cost -/
def spLc : Sp := fun vs H Q _ => ∃ (a c : Addr) (g : Gd) (x : P), vs = [.ref a, .ref c] ∧ GridAt H a g ∧ g.Ok ∧ H c = some (pairT x) ∧ ∀ H', Same H H' → Q (.int (cost g x)) H'
abbrev nLc : List Str := ["_law_grid_here", "_law_cell", "_law_column", "_law_row"]
theorem scLc : FnScope nLc ["_law_grid_here", "_law_cell"] (defScope sLawCost) := ⟨rfl, rfl, rfl, by decide +kernel, rfl, by decide +kernel, by decide +kernel⟩
abbrev tabLc : List (Key × V) := [((Sum.inr "." : Key), V.int 1), ((Sum.inr "^" : Key), V.int 1), ((Sum.inr "~" : Key), V.int 3), ((Sum.inr "#" : Key), V.int 0)]
theorem sign_cost4 {c : Nat} (h : c = 46 ∨ c = 35 ∨ c = 94 ∨ c = 126) : valV (mergeK [] tabLc) (Sum.inr ⟨#[c]⟩) = some (V.int (sc c)) := by
  rcases h with rfl | rfl | rfl | rfl <;> decide +kernel
theorem cost_of_out {g : Gd} {x : P} (h : outG g x) : cost g x = 0 := by
  unfold cost
  rw [if_pos h]
theorem ok_lc {f : Addr} {fd : FuncData} (D : Df K mg "_law_cost" "_law_cost" "_law_cost" sLawCost ["_law_grid_here", "_law_cell"] f fd) : FnOk Pr w K mg base CX0 1 f fd ["_law_grid_here", "_law_cell"] spLc := by
  refine D.F.ok scLc (fun vs H Q E h => ?_) (fun cdv A outer s H vs Q E hr h => ?_)
  · obtain ⟨a, c, g, x, rfl, _⟩ := h
    rfl
  · obtain ⟨a, c, g, x, rfl, hg, ok, hc, q⟩ := h
    have hu := hu_of hr
    have w6 := ok.w6
    have n36 := ok.n36
    refine ⟨_, pss_cons (ps_asg (pv 1) (pg_tup rfl (pgs_cons (pg_name (i := 2) scLc.nd rfl (.inl rfl)) (pgs_cons (pg_name (i := 3) scLc.nd rfl (.inl rfl)) pgs_nil))))
      (pss_cons (ps_if (PW.pt (pw_or (pt_cmpR op_lt (pv 2) pe_int (nomark _)) (pw_or (pt_cmpR op_lt (pv 3) pe_int (nomark _))
        (pw_or (pt_cmpR op_ge (pv 2) (pe_ix ix_tup (pv 0) pe_int (fun _ _ => rfl)) (nomark _)) (pw_or1 (pt_cmpR op_ge (pv 3) (pe_ix ix_tup (pv 0) pe_int (fun _ _ => rfl)) (nomark _))))))) (pss_one (ps_ret pe_int)) pss_nil)
      (pss_one (ps_ret (pe_dget hu (pe_disp (pps_cons pe_str pe_int (pps_cons pe_str pe_int (pps_cons pe_str pe_int (pps_cons pe_str pe_int pps_nil)))) (by rfl) (by rfl) (fun z => by cases z) (by decide))
        (pe_ix ix_str (pe_ix ix_tup (pv 0) pe_int (fun _ _ => rfl)) (pe_op op_add (pe_op op_mul (pv 3) (pe_ix ix_tup (pv 0) pe_int (fun _ _ => rfl))) (pv 2)) (fun _ _ => rfl)) (fun _ _ => rfl))))), ?_⟩
    refine ⟨_, rfl, c, _, rfl, SqT.of hc, rfl, _, _, rfl, _, _, rfl, rfl, ?_⟩
    have zero : outG g x → Q (.int 0) H := fun ho => by
      have z := q H (Same.refl H)
      rw [cost_of_out ho] at z
      exact z
    refine ⟨_, rfl, _, _, rfl, rfl, _, rfl, ?_⟩
    by_cases h1 : x.1 < 0
    · rw [decide_eq_true h1]
      exact iteT (zero (.inl h1))
    rw [decide_eq_false h1]
    refine iteF ?_
    refine ⟨_, rfl, _, _, rfl, rfl, _, rfl, ?_⟩
    by_cases h2 : x.2 < 0
    · rw [decide_eq_true h2]
      exact iteT (zero (.inr (.inl h2)))
    rw [decide_eq_false h2]
    refine iteF ?_
    refine ⟨_, rfl, _, rfl, a, _, 0, _, rfl, rfl, SqT.of hg, atI_nat (j := 0) rfl, _, _, rfl, rfl, _, rfl, ?_⟩
    by_cases h3 : (g.w : Int) ≤ x.1
    · rw [decide_eq_true h3]
      exact iteT (zero (.inr (.inr (.inl h3))))
    rw [decide_eq_false h3]
    refine iteF ?_
    refine ⟨_, rfl, _, rfl, a, _, 1, _, rfl, rfl, SqT.of hg, atI_nat (j := 1) rfl, _, _, rfl, rfl, _, rfl, ?_⟩
    by_cases h4 : (g.r : Int) ≤ x.2
    · rw [decide_eq_true h4]
      exact iteT (zero (.inr (.inr (.inr h4))))
    rw [decide_eq_false h4]
    refine iteF ?_
    have hno : ¬ outG g x := fun z => by
      rcases z with z | z | z | z
      · exact h1 z
      · exact h2 z
      · exact h3 z
      · exact h4 z
    have hin := inG_of hno
    have hix := idx_lt hin
    have hlen : idx g x < g.cs.length := by
      rw [ok.len]
      exact hix
    have hcs : g.cs[idx g x]? = some g.cs[idx g x] := List.getElem?_eq_getElem hlen
    intro d hd
    have hg2 : GridAt (upd (upd H d (.dK [])) d (.dK (mergeK [] tabLc))) a g := same_at (same_new hd) hd _ _ hg
    refine ⟨upd_same, tabLc, rfl, (by show 4 ≤ 15; decide), ?_⟩
    refine ⟨_, rfl, a, _, 2, _, rfl, rfl, SqT.of hg2, atI_nat (j := 2) rfl, _, rfl, _, rfl, a, _, 0, _, rfl, rfl, SqT.of hg2, atI_nat (j := 0) rfl, _, _, rfl, rfl, .inr ⟨by omega, by omega⟩, _, rfl, _, _, rfl, rfl, ?_⟩
    refine ⟨gs g, _, g.cs[idx g x], rfl, rfl, small (by rw [gs_len, ok.len]; omega), by rw [idx_int hin]; exact atI_nat (by rw [gs_list]; exact hcs), ?_⟩
    refine ⟨d, .int (cost g x), rfl, ?_, q _ (same_at (same_new hd) hd)⟩
    have e1 : cost g x = sc g.cs[idx g x] := by
      have := cost_cell ok hix hcs
      rw [cell_idx hin] at this
      exact this
    have z := DGet.k (k := (Sum.inr ⟨#[g.cs[idx g x]]⟩ : Key)) (H := upd (upd H d (.dK [])) d (.dK (mergeK [] tabLc))) (a := d) upd_same
    rw [sign_cost4 (ok.sg _ (List.getElem_mem hlen)), ← e1] at z
    exact z
end
end Kf
namespace Kf
open PySem L2 TL
section
variable {Pr : Program} {w : World} {K : PySem.W.Frag} {mg : Str → Option Value} {base : Heap}
/-! ### _law_beside -/
def spLb : Sp := fun vs H Q _ => ∃ (a c : Addr) (g : Gd) (x : P), vs = [.ref a, .ref c] ∧ GridAt H a g ∧ g.Ok ∧ H c = some (pairT x) ∧ ∀ l H', H l = none → Same H H' → ListAt H' l (bes g x) → Q (.ref l) H'
abbrev nLb : List Str := ["_law_grid_here", "_law_cell", "_law_column", "_law_row", "_law_menu", "_law_other_here"]
theorem scLb : FnScope nLb ["_law_grid_here", "_law_cell"] (defScope sLawBeside) := ⟨rfl, rfl, rfl, by decide +kernel, rfl, by decide +kernel, by decide +kernel⟩
theorem ok_lb {f f1 : Addr} {fd fd1 : FuncData} (D : Df K mg "_law_beside" "_law_beside" "_law_beside" sLawBeside ["_law_grid_here", "_law_cell"] f fd)
    (D1 : Df K mg "_law_cost" "_law_cost" "_law_cost" sLawCost ["_law_grid_here", "_law_cell"] f1 fd1) (F1 : FnOk Pr w K mg base CX0 1 f1 fd1 ["_law_grid_here", "_law_cell"] spLc) : FnOk Pr w K mg base CX0 2 f fd ["_law_grid_here", "_law_cell"] spLb := by
  refine D.F.ok scLb (fun vs H Q E h => ?_) (fun cdv A outer s H vs Q E hr h => ?_)
  · obtain ⟨a, c, g, x, rfl, _⟩ := h
    rfl
  · obtain ⟨a, c, g, x, rfl, hg, ok, hc, q⟩ := h
    refine ⟨_, pss_cons (ps_asg (pv 1) (pg_tup rfl (pgs_cons (pg_name (i := 2) scLb.nd rfl (.inl rfl)) (pgs_cons (pg_name (i := 3) scLb.nd rfl (.inl rfl)) pgs_nil))))
      (pss_cons (ps_set (i := 4) scLb.nd rfl (.inl rfl) (pe_lst (pa_cons (pe_tup (pa_cons (pe_op op_add (pv 2) pe_int) (pa_cons (pv 3) pa_nil))) (pa_cons (pe_tup (pa_cons (pv 2) (pa_cons (pe_op op_add (pv 3) pe_int) pa_nil)))
        (pa_cons (pe_tup (pa_cons (pe_op op_sub (pv 2) pe_int) (pa_cons (pv 3) pa_nil))) (pa_cons (pe_tup (pa_cons (pv 2) (pa_cons (pe_op op_sub (pv 3) pe_int) pa_nil))) pa_nil))))))
      (pss_one (ps_ret (pe_lc (own := [("_law_other_here", 5)]) (g := gName 5) rfl scLb.nd (pi_list (pv 4)) (blkOk_by (own := [("_law_other_here", 5)]) (N := nLb) (sc := defScope sLawBeside) (by decide +kernel))
          (fun _ _ _ _ _ => pg_name (i := 5) scLb.nd rfl (Or.inl rfl)) (fun _ _ _ _ _ => pts_one (pt_cmpR op_gt (pe_call F1 hr (by rfl) D1.m D1.F.kp D1.b .nil pass0 (pa_cons (pv 0) (pa_cons (pv 5) pa_nil))) pe_int (nomark _))) (fun _ _ _ _ _ => pv 5))))), ?_⟩
    refine ⟨_, rfl, c, _, rfl, SqT.of hc, rfl, _, _, rfl, _, _, rfl, rfl, ?_⟩
    -- the menu
    refine ⟨_, rfl, _, _, rfl, rfl, _, rfl, (by show 2 ≤ sizeLine; decide), fun t1 h1 => ?_⟩
    refine ⟨_, rfl, _, rfl, _, _, rfl, rfl, (by show 2 ≤ sizeLine; decide), fun t2 h2 => ?_⟩
    refine ⟨_, rfl, _, _, rfl, rfl, _, rfl, (by show 2 ≤ sizeLine; decide), fun t3 h3 => ?_⟩
    refine ⟨_, rfl, _, rfl, _, _, rfl, rfl, (by show 2 ≤ sizeLine; decide), fun t4 h4 => ?_⟩
    refine ⟨(by show 4 ≤ sizeLine; decide), fun l hl => ?_⟩
    have s1 : Same H (upd H t1 (.tup [.int (x.1 + 1), .int x.2])) := same_new h1
    have e1 : (upd H t1 (.tup [.int (x.1 + 1), .int x.2])) t1 = some (pairT (x.1 + 1, x.2)) := upd_same
    generalize upd H t1 (.tup [.int (x.1 + 1), .int x.2]) = H1 at *
    have s2 : Same H1 (upd H1 t2 (.tup [.int x.1, .int (x.2 + 1)])) := same_new h2
    have e2 : (upd H1 t2 (.tup [.int x.1, .int (x.2 + 1)])) t2 = some (pairT (x.1, x.2 + 1)) := upd_same
    generalize upd H1 t2 (.tup [.int x.1, .int (x.2 + 1)]) = H2 at *
    have s3 : Same H2 (upd H2 t3 (.tup [.int (x.1 - 1), .int x.2])) := same_new h3
    have e3 : (upd H2 t3 (.tup [.int (x.1 - 1), .int x.2])) t3 = some (pairT (x.1 - 1, x.2)) := upd_same
    generalize upd H2 t3 (.tup [.int (x.1 - 1), .int x.2]) = H3 at *
    have s4 : Same H3 (upd H3 t4 (.tup [.int x.1, .int (x.2 - 1)])) := same_new h4
    have e4 : (upd H3 t4 (.tup [.int x.1, .int (x.2 - 1)])) t4 = some (pairT (x.1, x.2 - 1)) := upd_same
    generalize upd H3 t4 (.tup [.int x.1, .int (x.2 - 1)]) = H4 at *
    have s5 : Same H4 (upd H4 l (.lst [.ref t1, .ref t2, .ref t3, .ref t4])) := same_new hl
    have e5 : (upd H4 l (.lst [.ref t1, .ref t2, .ref t3, .ref t4])) l = some (.lst ([t1, t2, t3, t4].map V.ref)) := upd_same
    generalize upd H4 l (.lst [.ref t1, .ref t2, .ref t3, .ref t4]) = H5 at *
    have r5 : RefsAt H5 [t1, t2, t3, t4] (nb x) := by
      refine ⟨rfl, fun i y e => ?_⟩
      match i, e with
      | 0, e => exact ⟨t1, rfl, by rw [← Option.some.inj e]; exact s5 _ _ (s4 _ _ (s3 _ _ (s2 _ _ e1)))⟩
      | 1, e => exact ⟨t2, rfl, by rw [← Option.some.inj e]; exact s5 _ _ (s4 _ _ (s3 _ _ e2))⟩
      | 2, e => exact ⟨t3, rfl, by rw [← Option.some.inj e]; exact s5 _ _ (s4 _ _ e3)⟩
      | 3, e => exact ⟨t4, rfl, by rw [← Option.some.inj e]; exact s5 _ _ e4⟩
      | i + 4, e => cases e
    have sH : Same H H5 := (((s1.trans s2).trans s3).trans s4).trans s5
    -- the comprehension
    refine ⟨_, rfl, l, rfl, ⟨_, SqL.of e5⟩, fun Dl hD => ?_⟩
    refine lc_list (xs := [t1, t2, t3, t4].map V.ref) (fun j H' => Same H5 H' ∧ ∃ as, H' Dl = some (.lst (as.map V.ref)) ∧ RefsAt H5 as (upto g x j)) ⟨same_new hD, [], upd_same, rfl, fun i y e => by cases e⟩ (fun j H' _ z => SqL.of (z.1 _ _ e5)) (fun j v H6 hv z => ?_) fun H6 z => ?_
    · obtain ⟨s6, as, ea, ra⟩ := z
      obtain ⟨b, y, rfl, hy, hb⟩ := r5.at_ hv
      refine ⟨rfl, ?_⟩
      refine ⟨_, rfl, _, rfl, a, b, g, y, rfl, s6 _ _ (sH _ _ hg), ok, s6 _ _ hb, fun H7 s7 => ?_⟩
      refine ⟨_, _, rfl, rfl, _, rfl, ?_⟩
      have s67 := s6.trans s7
      by_cases hp : 0 < cost g y
      · rw [decide_eq_true hp]
        refine iteT ?_
        refine ⟨_, rfl, _, s7 _ _ ea, small1000 (by rw [List.length_map, ra.1]; have := upto_len g x j; omega), same_at s67 hD, as ++ [b], ?_, ?_⟩
        · rw [upd_same, List.map_append]
          rfl
        · rw [upto_yes hy hp]
          exact ra.snoc hb
      · rw [decide_eq_false hp]
        refine iteF ?_
        refine ⟨s67, as, s7 _ _ ea, ?_⟩
        rw [upto_no hy hp]
        exact ra
    · obtain ⟨s6, as, ea, ra⟩ := z
      have ra' : RefsAt H5 as (bes g x) := ra
      exact q Dl H6 (sH.free hD) (sH.trans s6) ⟨as, ea, ra'.keep fun b y e => s6 _ _ e⟩
/-! ### _law_grid -/
def spLg : Sp := fun vs H Q _ => ∃ (S L : Addr), vs = [.ref S, .int 6] ∧ StrAt H S L ∧ ∀ (a : Addr) (g : Gd) (H' : Hp), g.Ok → H a = none → GridAt H' a g → StrAt H' S L → SameBut S H H' → Q (.ref a) H'
abbrev nLg : List Str := ["_law_stream_here", "_law_far", "_law_columns", "_law_rows", "_law_signs", "_law_cells_here", "_law_k"]
theorem scLg : FnScope nLg ["_law_stream_here", "_law_far"] (defScope sLawGrid) := ⟨rfl, rfl, rfl, by decide +kernel, rfl, by decide +kernel, by decide +kernel⟩
def okSigns (l : List Nat) : Bool := l.all fun c => c == 46 || c == 35 || c == 94 || c == 126
def menuZ : List Str := [".~^#.#", "..~^#", ".~", "..#"]
theorem menuZ_ok : ∀ z ∈ menuZ, okSigns z.cps.toList = true ∧ 1 ≤ z.length ∧ z.length ≤ 6 := by decide +kernel
theorem okSigns_of {l : List Nat} (h : okSigns l = true) : ∀ c ∈ l, c = 46 ∨ c = 35 ∨ c = 94 ∨ c = 126 := fun c hc => by
  have z := List.all_eq_true.mp h c hc
  simp only [Bool.or_eq_true, beq_iff_eq] at z
  omega
def one (c : Nat) : Str := ⟨#[c]⟩
theorem joinL_one : ∀ cs : List Nat, joinL [] (cs.map fun c => [c]) = cs
  | [] => rfl
  | [c] => rfl
  | c :: d :: r => by
    show [c] ++ ([] ++ joinL [] ((d :: r).map fun c => [c])) = c :: d :: r
    rw [joinL_one (d :: r)]
    rfl
theorem join_one (cs : List Nat) : Txt.join ("" : Str) (cs.map one) = ⟨cs.toArray⟩ := by
  refine ext_tl ?_
  rw [join_eq, tl_join, List.map_map]
  have e : (cs.map (tl ∘ one)) = cs.map fun c => [c] := List.map_congr_left fun c _ => rfl
  rw [e]
  have e0 : tl ("" : Str) = [] := by decide +kernel
  rw [e0, joinL_one]
theorem len_one (cs : List Nat) : ((cs.map one).map (·.length)).sum = cs.length := by
  induction cs with
  | nil => rfl
  | cons c r ih =>
    rw [List.map_cons, List.map_cons, List.sum_cons, ih, List.length_cons]
    show 1 + r.length = r.length + 1
    omega
theorem at_gen {α : Type} {xs : List α} {z : Int} {j : Nat} {v : α} (e : z = (j : Int)) (h : xs[j]? = some v) : atI xs z = some v := by
  subst e
  exact atI_nat h
theorem ok_lg {f f1 : Addr} {fd fd1 : FuncData} (D : Df K mg "_law_grid" "_law_grid" "_law_grid" sLawGrid ["_law_stream_here", "_law_far"] f fd) (B : Bi mg)
    (D1 : Df K mg "_law_next" "_law_next" "_law_next" sNext ["_law_stream_here", "_law_many"] f1 fd1) (F1 : FnOk Pr w K mg base CX0 1 f1 fd1 ["_law_stream_here", "_law_many"] spNx) : FnOk Pr w K mg base CX0 2 f fd ["_law_stream_here", "_law_far"] spLg := by
  refine D.F.ok scLg (fun vs H Q E h => ?_) (fun cdv A outer s H vs Q E hr h => ?_)
  · obtain ⟨S, L, rfl, _⟩ := h
    rfl
  · obtain ⟨S, L, rfl, hS, q⟩ := h
    refine ⟨_, pss_cons (ps_set (i := 2) scLg.nd rfl (.inl rfl) (pe_op op_add pe_int (pe_call F1 hr (by rfl) D1.m D1.F.kp D1.b .nil pass0 (pa_cons (pv 0) (pa_cons (pv 1) pa_nil)))))
      (pss_cons (ps_set (i := 3) scLg.nd rfl (.inl rfl) (pe_op op_add pe_int (pe_call F1 hr (by rfl) D1.m D1.F.kp D1.b .nil pass0 (pa_cons (pv 0) (pa_cons (pv 1) pa_nil)))))
      (pss_cons (ps_set (i := 4) scLg.nd rfl (.inr rfl) (pe_ix ix_list (pe_lst (pa_cons pe_str (pa_cons pe_str (pa_cons pe_str (pa_cons pe_str pa_nil))))) (pe_call F1 hr (by rfl) D1.m D1.F.kp D1.b .nil pass0 (pa_cons (pv 0) (pa_cons pe_int pa_nil))) (fun _ _ => rfl)))
      (pss_cons (ps_set (i := 5) scLg.nd rfl (.inl rfl) (pe_join pe_str (pe_lc (own := [("_law_k", 6)]) (g := gName 6) (tt := tYes) rfl scLg.nd (pi_range1 (by rfl) B.range (pa_cons (pe_op op_mul (pv 2) (pv 3)) pa_nil)) (blkOk_by (own := [("_law_k", 6)]) (N := nLg) (sc := defScope sLawGrid) (by decide +kernel))
          (fun _ _ _ _ _ => pg_name (i := 6) scLg.nd rfl (Or.inl rfl)) (fun _ _ _ _ _ => pts_nil)
          (fun _ _ _ _ _ => pe_ix ix_str (pv 4) (pe_call F1 hr (by rfl) D1.m D1.F.kp D1.b .nil pass0 (pa_cons (pv 0) (pa_cons (pe_callB call_len_str (by rfl) B.len (by decide +kernel) (pa_cons (pv 4) pa_nil)) pa_nil))) (fun _ _ => rfl)))))
      (pss_one (ps_ret (pe_tup (pa_cons (pv 2) (pa_cons (pv 3) (pa_cons (pv 5) pa_nil))))))))), ?_⟩
    refine ⟨_, rfl, _, rfl, S, L, 6, rfl, hS, by decide, by decide, fun d1 H1 a1 b1 hS1 s1 => ⟨_, _, rfl, rfl, ?_⟩⟩
    refine ⟨_, rfl, _, rfl, S, L, 6, rfl, hS1, by decide, by decide, fun d2 H2 a2 b2 hS2 s2 => ⟨_, _, rfl, rfl, ?_⟩⟩
    obtain ⟨n1, en1, l1, u1⟩ : ∃ n1 : Nat, 1 + d1 = (n1 : Int) ∧ 1 ≤ n1 ∧ n1 ≤ 6 := ⟨(1 + d1).toNat, by omega, by omega, by omega⟩
    obtain ⟨n2, en2, l2, u2⟩ : ∃ n2 : Nat, 1 + d2 = (n2 : Int) ∧ 1 ≤ n2 ∧ n2 ≤ 6 := ⟨(1 + d2).toNat, by omega, by omega, by omega⟩
    have hm : (1 + d1) * (1 + d2) = ((n1 * n2 : Nat) : Int) := by rw [en1, en2, Int.natCast_mul]
    refine ⟨(by show 4 ≤ sizeLine; decide), fun p hp => ?_⟩
    refine ⟨_, rfl, S, L, 4, rfl, hS2.new hp, by decide, by decide, fun d3 H3 a3 b3 hS3 s3 => ?_⟩
    have np : p ≠ S := (hS2.fresh hp).1
    have e3 : H3 p = some (.lst (menuZ.map V.str)) := s3 _ _ upd_same np
    have hd3 : d3.toNat < menuZ.length := by
      show d3.toNat < 4
      omega
    have ez : (menuZ.map V.str)[d3.toNat]? = some (.str menuZ[d3.toNat]) := by
      rw [List.getElem?_map, List.getElem?_eq_getElem hd3]
      rfl
    have eat : atI (menuZ.map V.str) d3 = some (.str menuZ[d3.toNat]) := at_of (j := d3.toNat) (by omega) ez
    obtain ⟨z1, z2, z3⟩ := menuZ_ok _ (List.getElem_mem hd3)
    generalize menuZ[d3.toNat] = zs at eat z1 z2 z3
    refine ⟨p, _, _, _, rfl, rfl, SqL.of e3, eat, ?_⟩
    have s03 : SameBut S H H3 := (s1.trans s2).trans (((SameBut.refl S H2).new hp).trans s3)
    have hn12 : n1 * n2 ≤ 36 := Nat.mul_le_mul u1 u2
    refine ⟨⟨_, rfl⟩, ?_⟩
    refine ⟨_, rfl, _, rfl, _, _, rfl, rfl, .inl ⟨by omega, by omega⟩, ?_⟩
    refine ⟨(1 + d1) * (1 + d2), rfl, by omega, by omega, fun Dl hD => ?_⟩
    have nD := hS3.fresh hD
    refine lc_range (lo := 0) (n := ((1 + d1) * (1 + d2)).toNat) (fun i H' => SameBut S H3 H' ∧ StrAt H' S L ∧ ∃ cs : List Nat, cs.length = i ∧ okSigns cs = true ∧ H' Dl = some (.lst ((cs.map one).map V.str)))
      ⟨(SameBut.refl S H3).new hD, hS3.new hD, [], rfl, rfl, upd_same⟩ (fun i H4 hi z => ?_) fun H4 z => ?_
    · obtain ⟨s4, hS4, cs, el, eo, ed⟩ := z
      refine ⟨rfl, yes (iteT ?_)⟩
      refine ⟨_, rfl, _, rfl, _, rfl, zs, rfl, small (by omega), S, L, ((zs.length : Nat) : Int), rfl, hS4, by omega, by omega, fun d4 H5 a4 b4 hS5 s5 => ?_⟩
      have hlt : d4.toNat < zs.cps.toList.length := by
        have : zs.length = zs.cps.toList.length := len_tl zs
        omega
      have ec : atI zs.cps.toList d4 = some zs.cps.toList[d4.toNat] := at_gen (j := d4.toNat) (by omega) (List.getElem?_eq_getElem hlt)
      have hok : okSigns [zs.cps.toList[d4.toNat]] = true := by
        have z := List.all_eq_true.mp z1 _ (List.getElem_mem hlt)
        unfold okSigns
        rw [List.all_cons, z]
        rfl
      generalize zs.cps.toList[d4.toNat] = c at ec hok
      refine ⟨zs, _, c, rfl, rfl, small (by omega), ec, _, s5 _ _ ed nD.1, ?_, ?_⟩
      · rw [List.length_map, List.length_map]
        exact small1000 (by omega)
      · refine ⟨fun b o e n => ?_, hS5.wr nD, cs ++ [c], by rw [List.length_append, el]; rfl, ?_, ?_⟩
        · rw [upd_ne (ne_of_none e hD)]
          exact (s4.trans s5) b o e n
        · unfold okSigns at *
          rw [List.all_append, eo, hok]
          rfl
        · rw [upd_same, List.map_append, List.map_append]
          rfl
    · obtain ⟨s4, hS4, cs, el, eo, ed⟩ := z
      refine ⟨"", Dl, cs.map one, rfl, rfl, .inl (SqL.of ed), ?_, ?_⟩
      · rw [len_one, List.length_map]
        show cs.length + cs.length * 0 ≤ 16777216
        omega
      · rw [join_one]
        refine ⟨_, rfl, _, rfl, _, rfl, (by show 3 ≤ sizeLine; decide), fun a ha => ?_⟩
        have s04 := s03.trans s4
        refine q a ⟨n1, n2, cs⟩ _ ⟨l1, u1, l2, u2, ?_, okSigns_of eo⟩ (s04.free hS4 ha) ?_ (hS4.new ha) (s04.new ha)
        · show cs.length = n1 * n2
          omega
        · unfold GridAt
          rw [upd_same]
          show some (HO.tup [V.int (1 + d1), V.int (1 + d2), V.str ⟨cs.toArray⟩]) = some (HO.tup [V.int (n1 : Int), V.int (n2 : Int), V.str ⟨cs.toArray⟩])
          rw [en1, en2]
end
end Kf
namespace Kf
open PySem L2
/-! ### the dict of distances -/
def key (x : P) : List Key := [Sum.inl x.1, Sum.inl x.2]
theorem key_inj {x y : P} (h : key x = key y) : x = y := by
  unfold key at h
  injection h with h1 h2
  injection h2 with h2 _
  injection h1 with h1
  injection h2 with h2
  exact Prod.ext h1 h2
structure FarB (H : Hp) (d : Addr) (F : Fn) (c : Nat) : Prop where
  ex : ∃ kvs : List (List Key × V), H d = some (.dT kvs) ∧ (∀ x, valV kvs (key x) = (F x).map V.int) ∧ kvs.length ≤ c
  le : ∀ x k, F x = some k → k ≤ 3 * (c : Int)
theorem FarB.up {H : Hp} {d : Addr} {F : Fn} {c c' : Nat} (h : FarB H d F c) (l : c ≤ c') : FarB H d F c' := by
  obtain ⟨kvs, h1, h2, h3⟩ := h.ex
  exact ⟨⟨kvs, h1, h2, Nat.le_trans h3 l⟩, fun x k e => by have := h.le x k e; omega⟩
theorem FarB.on {H H' : Hp} {d : Addr} {F : Fn} {c : Nat} (h : FarB H d F c) (e : H' d = H d) : FarB H' d F c := by
  obtain ⟨kvs, h1, h2, h3⟩ := h.ex
  exact ⟨⟨kvs, e.trans h1, h2, h3⟩, h.le⟩
theorem FarB.same {H H' : Hp} {d : Addr} {F : Fn} {c : Nat} (h : FarB H d F c) (s : Same H H') : FarB H' d F c := by
  obtain ⟨kvs, h1, h2, h3⟩ := h.ex
  exact ⟨⟨kvs, s _ _ h1, h2, h3⟩, h.le⟩
theorem farB_put {H : Hp} {d : Addr} {F : Fn} {c : Nat} {kvs : List (List Key × V)} {p : P} {k : Int} (h2 : ∀ x, valV kvs (key x) = (F x).map V.int) (h3 : kvs.length ≤ c)
    (hl : ∀ x k, F x = some k → k ≤ 3 * (c : Int)) (hk : k ≤ 3 * (c : Int) + 3) : FarB (upd H d (.dT (putK kvs (key p) (.int k)))) d (setF F p k) (c + 1) := by
  refine ⟨⟨_, upd_same, fun x => ?_, Nat.le_trans (length_putK _ _ _) (Nat.succ_le_succ h3)⟩, fun x j e => ?_⟩
  · rw [valV_put]
    unfold setF
    by_cases e : x = p
    · rw [if_pos (congrArg key e), if_pos e]
      rfl
    · rw [if_neg fun z => e (key_inj z), if_neg e]
      exact h2 x
  · unfold setF at e
    by_cases ex : x = p
    · rw [if_pos ex] at e
      injection e with e
      omega
    · rw [if_neg ex] at e
      have := hl x j e
      omega
/-- the goals' own distances, as far as they have been taken -/
def F0 (g : Gd) (ps : List P) (i : Nat) : Fn := fun x => if x ∈ ps.take i ∧ 0 < cost g x then some 0 else none
theorem F0_yes {g : Gd} {ps : List P} {i : Nat} {p : P} (h : ps[i]? = some p) (c : 0 < cost g p) : F0 g ps (i + 1) = setF (F0 g ps i) p 0 := by
  funext x
  unfold F0 setF
  rw [List.take_add_one, h]
  by_cases e : x = p
  · rw [if_pos e, if_pos ⟨by rw [e]; exact List.mem_append_right _ List.mem_cons_self, by rw [e]; exact c⟩]
  · rw [if_neg e]
    have : (x ∈ ps.take i ++ (some p).toList ∧ 0 < cost g x) ↔ (x ∈ ps.take i ∧ 0 < cost g x) := by
      constructor
      · rintro ⟨m, z⟩
        rcases List.mem_append.mp m with m | m
        · exact ⟨m, z⟩
        · exact absurd (List.mem_singleton.mp m) e
      · rintro ⟨m, z⟩
        exact ⟨List.mem_append_left _ m, z⟩
    show _ = (if x ∈ ps.take i ∧ 0 < cost g x then some 0 else none)
    by_cases q : x ∈ ps.take i ∧ 0 < cost g x
    · rw [if_pos q, if_pos (this.mpr q)]
    · rw [if_neg q, if_neg fun z => q (this.mp z)]
theorem F0_no {g : Gd} {ps : List P} {i : Nat} {p : P} (h : ps[i]? = some p) (c : ¬ 0 < cost g p) : F0 g ps (i + 1) = F0 g ps i := by
  funext x
  unfold F0
  rw [List.take_add_one, h]
  have : (x ∈ ps.take i ++ (some p).toList ∧ 0 < cost g x) ↔ (x ∈ ps.take i ∧ 0 < cost g x) := by
    constructor
    · rintro ⟨m, z⟩
      rcases List.mem_append.mp m with m | m
      · exact ⟨m, z⟩
      · rw [List.mem_singleton.mp m] at z
        exact absurd z c
    · rintro ⟨m, z⟩
      exact ⟨List.mem_append_left _ m, z⟩
  by_cases q : x ∈ ps.take i ∧ 0 < cost g x
  · rw [if_pos q, if_pos (this.mpr q)]
  · rw [if_neg q, if_neg fun z => q (this.mp z)]
theorem far_F0 (g : Gd) (ps : List P) : Far g ps (F0 g ps ps.length) where
  sound := fun p k e => by
    unfold F0 at e
    rw [List.take_length] at e
    by_cases q : p ∈ ps ∧ 0 < cost g p
    · rw [if_pos q] at e
      injection e with e
      rw [← e]
      exact .goal q.1 q.2
    · rw [if_neg q] at e
      cases e
  goal := fun p hp c => by
    unfold F0
    rw [List.take_length, if_pos ⟨hp, c⟩]
theorem cl_at {g : Gd} {i : Nat} {p : P} (h : (cl g)[i]? = some p) : p = cell g i ∧ i < g.n := by
  unfold cl at h
  have hi : i < g.n := by
    have := (List.getElem?_eq_some_iff.mp h).1
    rw [List.length_map, List.length_range] at this
    exact this
  rw [List.getElem?_map, List.getElem?_range hi] at h
  exact ⟨(Option.some.inj h).symm, hi⟩
/-- what a turn over the cells, and one over the ways of a cell, has done -/
def S3 (g : Gd) (i : Nat) : P → P → Prop := fun p q => 0 < cost g p ∧ q ∈ bes g p ∧ ∃ i', i' < i ∧ p = cell g i'
def S4 (g : Gd) (i j : Nat) : P → P → Prop := fun p q => S3 g i p q ∨ (p = cell g i ∧ q ∈ (bes g p).take j)
theorem s4_start {g : Gd} {i : Nat} {F F' : Fn} (h : Part g F F' (S3 g i)) : Part g F F' (S4 g i 0) := h.imp fun p q s => by
  rcases s with s | ⟨_, s⟩
  · exact s
  · cases s
theorem s4_next {g : Gd} {i j : Nat} {F F' F2 : Fn} {q : P} (h : Part g F F' (S4 g i j)) (hq : (bes g (cell g i))[j]? = some q) (l : Le F' F2)
    (r : ∀ k, F' q = some k → ∃ k', F2 (cell g i) = some k' ∧ k' ≤ k + cost g q) : Part g F F2 (S4 g i (j + 1)) := (h.more l r).imp fun a b s => by
  rcases s with s | ⟨rfl, s⟩
  · exact .inl (.inl s)
  · rw [List.take_add_one, hq] at s
    rcases List.mem_append.mp s with s | s
    · exact .inl (.inr ⟨rfl, s⟩)
    · exact .inr ⟨rfl, List.mem_singleton.mp s⟩
theorem s3_open {g : Gd} {i : Nat} {F F' : Fn} (h : Part g F F' (S4 g i (bes g (cell g i)).length)) : Part g F F' (S3 g (i + 1)) := h.imp fun p q ⟨c, m, i', hi, e⟩ => by
  by_cases z : i' = i
  · subst z
    subst e
    exact .inr ⟨rfl, by rw [List.take_length]; exact m⟩
  · exact .inl ⟨c, m, i', by omega, e⟩
theorem s3_shut {g : Gd} {i : Nat} {F F' : Fn} (h : Part g F F' (S3 g i)) (c0 : ¬ 0 < cost g (cell g i)) : Part g F F' (S3 g (i + 1)) := h.imp fun p q ⟨c, m, i', hi, e⟩ => by
  by_cases z : i' = i
  · subst z
    subst e
    exact absurd c c0
  · exact ⟨c, m, i', by omega, e⟩
theorem s3_round {g : Gd} {F F' : Fn} (h : Part g F F' (S3 g g.n)) : Round g F F' := Part.imp h fun p q ⟨c, m⟩ =>
  ⟨c, m, idx g p, idx_lt (cost_in c), (cell_idx (cost_in c)).symm⟩
section
variable {Pr : Program} {w : World} {K : PySem.W.Frag} {mg : Str → Option Value} {base : Heap}
def SeqAt (H : Hp) (ga : Addr) (ps : List P) : Prop := ∃ as : List Addr, (H ga = some (.tup (as.map V.ref)) ∨ H ga = some (.lst (as.map V.ref))) ∧ RefsAt H as ps
def spDi : Sp := fun vs H Q _ => ∃ (a ga : Addr) (g : Gd) (ps : List P), vs = [.ref a, .ref ga] ∧ GridAt H a g ∧ g.Ok ∧ SeqAt H ga ps ∧ ps.length ≤ 16 ∧
  ∀ (d : Addr) (F : Fn) (H' : Hp), H d = none → Same H H' → FarB H' d F 10000 → Far g ps F → All g ps F → Q (.ref d) H'
abbrev nDi : List Str := ["_law_grid_here", "_law_goals", "_law_far", "_law_goal", "_law_turn", "_law_changed", "_law_cell", "_law_other_here"]
theorem scDi : FnScope nDi ["_law_grid_here", "_law_goals"] (defScope sDist) := ⟨rfl, rfl, rfl, by decide +kernel, rfl, by decide +kernel, by decide +kernel⟩
theorem getD_int (o : Option Int) (z : Int) : (o.map V.int).getD (V.int z) = V.int (o.getD z) := by cases o <;> rfl
theorem ok_di {f f1 f2 f3 : Addr} {fd fd1 fd2 fd3 : FuncData} (D : Df K mg "_law_distances" "_law_distances" "_law_distances" sDist ["_law_grid_here", "_law_goals"] f fd) (B : Bi mg)
    (D1 : Df K mg "_law_cost" "_law_cost" "_law_cost" sLawCost ["_law_grid_here", "_law_cell"] f1 fd1) (F1 : FnOk Pr w K mg base CX0 1 f1 fd1 ["_law_grid_here", "_law_cell"] spLc)
    (D2 : Df K mg "_law_cells" "_law_cells" "_law_cells" sCells ["_law_grid_here"] f2 fd2) (F2 : FnOk Pr w K mg base CX0 1 f2 fd2 ["_law_grid_here"] spCe)
    (D3 : Df K mg "_law_beside" "_law_beside" "_law_beside" sLawBeside ["_law_grid_here", "_law_cell"] f3 fd3) (F3 : FnOk Pr w K mg base CX0 2 f3 fd3 ["_law_grid_here", "_law_cell"] spLb) : FnOk Pr w K mg base CX0 3 f fd ["_law_grid_here", "_law_goals"] spDi := by
  refine D.F.ok scDi (fun vs H Q E h => ?_) (fun cdv A outer s H vs Q E hr h => ?_)
  · obtain ⟨a, ga, g, ps, rfl, _⟩ := h
    rfl
  · obtain ⟨a, ga, g, ps, rfl, hg, ok, hsq, h16, q⟩ := h
    have hu := hu_of hr
    have hr1 := hr.mono (by decide : 1 ≤ 2)
    have n36 := ok.n36
    have slen : (gs g).length = g.n := (gs_len g).trans ok.len
    refine ⟨_, pss_cons (ps_set (i := 2) scDi.nd rfl (.inl rfl) pe_dnewT)
      (pss_cons (ps_for PassesOwn.never rfl (pi_seq (pv 1)) (pg_name (i := 3) scDi.nd rfl (.inl rfl))
        (pss_one (ps_if (pt_cmpR op_gt (pe_call F1 hr1 (by rfl) D1.m D1.F.kp D1.b .nil pass0 (pa_cons (pv 0) (pa_cons (pv 3) pa_nil))) pe_int (nomark _)) (pss_one (ps_dput hu (pv 2) (pv 3) pe_int rfl)) pss_nil)))
      (pss_cons (ps_for PassesOwn.never rfl (pi_range1 (by rfl) B.range (pa_cons (pe_callB call_len_str (by rfl) B.len (by decide +kernel) (pa_cons (pe_ix ix_tup (pv 0) pe_int (fun _ _ => rfl)) pa_nil)) pa_nil)) (pg_name (i := 4) scDi.nd rfl (.inl rfl))
        (pss_cons (ps_set (i := 5) scDi.nd rfl (.inl rfl) pe_bl)
        (pss_cons (ps_for PassesOwn.never rfl (pi_list (pe_call F2 hr1 (by rfl) D2.m D2.F.kp D2.b .nil pass0 (pa_cons (pv 0) pa_nil))) (pg_name (i := 6) scDi.nd rfl (.inl rfl))
          (pss_one (ps_if (pt_cmpR op_gt (pe_call F1 hr1 (by rfl) D1.m D1.F.kp D1.b .nil pass0 (pa_cons (pv 0) (pa_cons (pv 6) pa_nil))) pe_int (nomark _))
            (pss_one (ps_for PassesOwn.never rfl (pi_list (pe_call F3 hr (by rfl) D3.m D3.F.kp D3.b .nil pass0 (pa_cons (pv 0) (pa_cons (pv 6) pa_nil)))) (pg_name (i := 7) scDi.nd rfl (.inl rfl))
              (pss_one (ps_if (PW.pt (pw_and (pt_cmp (pc_din hu (pv 7) (pv 2))) (pw_and1 (pt_cmpR op_lt (pe_op op_add (pe_dget hu (pv 2) (pv 7) (fun _ _ => rfl)) (pe_call F1 hr1 (by rfl) D1.m D1.F.kp D1.b .nil pass0 (pa_cons (pv 0) (pa_cons (pv 7) pa_nil))))
                  (pe_dget2 hu (pv 2) (pv 6) (pe_op op_pow pe_int pe_int) ⟨by rfl, by rfl, by rfl, by rfl⟩) (nomark _)))))
                (pss_cons (ps_dput hu (pv 2) (pv 6) (pe_op op_add (pe_dget hu (pv 2) (pv 7) (fun _ _ => rfl)) (pe_call F1 hr1 (by rfl) D1.m D1.F.kp D1.b .nil pass0 (pa_cons (pv 0) (pa_cons (pv 7) pa_nil)))) rfl)
                (pss_one (ps_set (i := 5) scDi.nd rfl (.inl rfl) pe_bl))) pss_nil)))) pss_nil)))
        (pss_one (ps_if (pt_not (pt_val (pv 5))) (pss_one ps_break) pss_nil)))))
      (pss_one (ps_ret (pv 2))))), ?_⟩
    intro d hd
    have s0 : Same H (upd H d (.dT [])) := same_new hd
    have hd0 : (upd H d (.dT [])) d = some (.dT []) := upd_same
    have b0 : FarB (upd H d (.dT [])) d (F0 g ps 0) 0 := ⟨⟨[], upd_same, fun x => by unfold F0; rw [if_neg fun z => by cases z.1]; rfl, Nat.le_refl 0⟩, fun x k e => by unfold F0 at e; rw [if_neg fun z => by cases z.1] at e; cases e⟩
    generalize upd H d (.dT []) = H1 at s0 hd0 b0 ⊢
    have hg1 : GridAt H1 a g := s0 _ _ hg
    have had : a ≠ d := ne_of hg1 hd0 (by intro z; cases z)
    obtain ⟨as, hga, hra⟩ := hsq
    have hga1 : H1 ga = some (.tup (as.map V.ref)) ∨ H1 ga = some (.lst (as.map V.ref)) := by
      rcases hga with z | z
      · exact .inl (s0 _ _ z)
      · exact .inr (s0 _ _ z)
    have hgd : ga ≠ d := by
      rcases hga1 with z | z
      · exact ne_of z hd0 (by intro y; cases y)
      · exact ne_of z hd0 (by intro y; cases y)
    have pne : ∀ {Hx : Hp} {b : Addr} {x : P} {kvs : List (List Key × V)}, Hx d = some (.dT kvs) → Hx b = some (pairT x) → b ≠ d := fun e1 e2 => ne_of e2 e1 (by intro y; cases y)
    have fin : ∀ (F : Fn) (H' : Hp) (c : Nat), SameBut d H1 H' → c ≤ 10000 → FarB H' d F c → Far g ps F → All g ps F → Q (.ref d) H' := fun F H' c sb hc fb fr al =>
      q d F H' hd (fun b o e => sb b o (s0 _ _ e) (ne_of_none e hd)) (fb.up hc) fr al
    -- the goals
    refine ⟨_, rfl, ga, _, rfl, hga1, fun J wk => ?_⟩
    refine for_it wk (fun i σ H' => ∃ d3 d4 d5 d6 d7, σ = [some (.ref a), some (.ref ga), some (.ref d), d3, d4, d5, d6, d7] ∧ SameBut d H1 H' ∧ FarB H' d (F0 g ps i) i)
      ⟨none, none, none, none, none, rfl, SameBut.refl d H1, b0⟩ (fun i σ H' _ z => ?_) (fun i x σ H2 H3 hi z y => ?_) fun σ H2 z => ?_
    · obtain ⟨_, _, _, _, _, _, sb, _⟩ := z
      rcases hga1 with e | e
      · rw [e]
        exact sb _ _ e hgd
      · rw [e]
        exact sb _ _ e hgd
    · obtain ⟨d3, d4, d5, d6, d7, rfl, sb, fb⟩ := z
      obtain ⟨rfl, hx⟩ := y
      obtain ⟨b, p, rfl, hp, hb⟩ := hra.at_ hx
      obtain ⟨kvs, k1, k2, k3⟩ := fb.ex
      have hil : i < ps.length := (List.getElem?_eq_some_iff.mp hp).1
      have hb1 := s0 _ _ hb
      have hb2 : H3 b = some (pairT p) := sb _ _ hb1 (pne hd0 hb1)
      refine ⟨_, rfl, _, rfl, a, b, g, p, rfl, sb _ _ hg1 had, ok, hb2, fun H4 s4 => ?_⟩
      refine ⟨_, _, rfl, rfl, _, rfl, ?_⟩
      have fb4 := fb.same s4
      have sb4 := sb.trans (Same.but s4)
      by_cases hc : 0 < cost g p
      · rw [decide_eq_true hc]
        refine iteT ?_
        refine ⟨_, rfl, _, rfl, d, _, rfl, DPut.t (k := key p) (s4 _ _ k1) (s4 _ _ hb2) (small1000 (by omega)), ?_⟩
        refine ⟨_, _, _, _, _, rfl, sb4.upd, ?_⟩
        rw [F0_yes hp hc]
        exact farB_put k2 k3 fb.le (by omega)
      · rw [decide_eq_false hc]
        refine iteF ⟨_, _, _, _, _, rfl, sb4, ?_⟩
        rw [F0_no hp hc]
        exact fb4.up (Nat.le_succ i)
    obtain ⟨d3, d4, d5, d6, d7, rfl, sb, fb⟩ := z
    rw [List.length_map, hra.1] at fb
    have ff := far_F0 g ps
    generalize F0 g ps ps.length = Fz at fb ff
    -- the rounds
    refine ⟨_, rfl, a, _, 2, _, rfl, rfl, SqT.of (sb _ _ hg1 had), atI_nat (j := 2) rfl, gs g, rfl, small (by omega), ((gs g).length : Int), rfl, by omega, by omega, ?_⟩
    refine for_range (lo := 0) (n := ((gs g).length : Int).toNat) (fun t σ H' => ∃ d3 d4 d5 d6 d7, σ = [some (.ref a), some (.ref ga), some (.ref d), d3, d4, d5, d6, d7] ∧ SameBut d H1 H' ∧ ∃ F, FarB H' d F (16 + 144 * t) ∧ Far g ps F ∧ Prog g ps t F)
      ⟨d3, d4, d5, d6, d7, rfl, sb, Fz, fb.up h16, ff, prog0 g ps Fz⟩ (fun t σ H3 ht z => ?_) fun σ H3 z => ?_
    · obtain ⟨d3, d4, d5, d6, d7, rfl, sb3, FA, fb3, fr3, pr3⟩ := z
      have ht36 : t < 36 := by omega
      refine ⟨_, rfl, a, g, rfl, sb3 _ _ hg1 had, ok, fun l Hc hl sc hL => ?_⟩
      obtain ⟨as2, hl2, ra2⟩ := hL
      have fbc := fb3.same sc
      have sbc := sb3.trans (Same.but sc)
      obtain ⟨kvc, kc1, _⟩ := fbc.ex
      have hld : l ≠ d := ne_of hl2 kc1 (by intro y; cases y)
      refine ⟨l, rfl, ⟨_, SqL.of hl2⟩, ?_⟩
      refine for_list (xs := as2.map V.ref) (fun i σ H' => ∃ d3 d6 d7, ∃ ch : Bool, σ = [some (.ref a), some (.ref ga), some (.ref d), d3, some (.int (0 + (t : Int))), some (.bl ch), d6, d7] ∧ SameBut d Hc H' ∧
          ∃ F, FarB H' d F (16 + 144 * t + 4 * i) ∧ Far g ps F ∧ Part g FA F (S3 g i) ∧ (ch = false → F = FA))
        ⟨d3, d6, d7, false, rfl, SameBut.refl d Hc, FA, fbc, fr3, (Part.start g FA).imp (fun p q ⟨_, _, i', hi, _⟩ => absurd hi (Nat.not_lt_zero i')), fun _ => rfl⟩ (fun i σ H' _ z => ?_) (fun i x σ H4 hx z => ?_) fun σ H4 z => ?_
      · obtain ⟨_, _, _, _, _, sb', _⟩ := z
        exact SqL.of (sb' _ _ hl2 hld)
      · obtain ⟨d3, d6, d7, ch, rfl, sb4, F, fb4, fr4, pt4, hch⟩ := z
        obtain ⟨b, p, rfl, hp, hb⟩ := ra2.at_ hx
        obtain ⟨ep, hin⟩ := cl_at hp
        have hb4 : H4 b = some (pairT p) := sb4 _ _ hb (pne kc1 hb)
        have hg4 : GridAt H4 a g := sb4 _ _ (sbc _ _ hg1 had) had
        refine ⟨_, rfl, _, rfl, a, b, g, p, rfl, hg4, ok, hb4, fun H5 s5 => ?_⟩
        refine ⟨_, _, rfl, rfl, _, rfl, ?_⟩
        have fb5 := fb4.same s5
        have sb5 := sb4.trans (Same.but s5)
        by_cases hc : 0 < cost g p
        rotate_left
        · rw [decide_eq_false hc]
          exact iteF ⟨_, _, _, ch, rfl, sb5, F, fb5.up (by omega), fr4, s3_shut pt4 (by rw [← ep]; exact hc), hch⟩
        rw [decide_eq_true hc]
        refine iteT ?_
        refine ⟨_, rfl, _, rfl, a, b, g, p, rfl, s5 _ _ hg4, ok, s5 _ _ hb4, fun l2 H6 hl6 s6 hL6 => ?_⟩
        obtain ⟨as6, hl7, ra6⟩ := hL6
        have fb6 := fb5.same s6
        have sb6 := sb5.trans (Same.but s6)
        obtain ⟨kv6, k61, _⟩ := fb6.ex
        have hl6d : l2 ≠ d := ne_of hl7 k61 (by intro y; cases y)
        have hb6 : H6 b = some (pairT p) := s6 _ _ (s5 _ _ hb4)
        have hg6 : GridAt H6 a g := s6 _ _ (s5 _ _ hg4)
        refine ⟨l2, rfl, ⟨_, SqL.of hl7⟩, ?_⟩
        refine for_list (xs := as6.map V.ref) (fun j σ H' => ∃ d3 d7, ∃ ch : Bool, σ = [some (.ref a), some (.ref ga), some (.ref d), d3, some (.int (0 + (t : Int))), some (.bl ch), some (.ref b), d7] ∧ SameBut d H6 H' ∧
            ∃ F, FarB H' d F (16 + 144 * t + 4 * i + j) ∧ Far g ps F ∧ Part g FA F (S4 g i j) ∧ (ch = false → F = FA))
          ⟨d3, d7, ch, rfl, SameBut.refl d H6, F, fb6, fr4, s4_start pt4, hch⟩ (fun j σ H' _ z => ?_) (fun j x σ H7 hx7 z => ?_) fun σ H7 z => ?_
        · obtain ⟨_, _, _, _, sb', _⟩ := z
          exact SqL.of (sb' _ _ hl7 hl6d)
        · obtain ⟨d3, d7, ch, rfl, sb7, F, fb7, fr7, pt7, hch⟩ := z
          obtain ⟨e, y, rfl, hy, he⟩ := ra6.at_ hx7
          have hy' : (bes g (cell g i))[j]? = some y := by
            rw [← ep]
            exact hy
          have hyo := (mem_bes.mp (List.mem_of_getElem? hy)).2
          have hyn := (mem_bes.mp (List.mem_of_getElem? hy)).1
          have hj4 : j < 4 := by
            have := (List.getElem?_eq_some_iff.mp hy).1
            have := bes_len g p
            omega
          have hcy := cost_le g y
          obtain ⟨kvs, k1, k2, k3⟩ := fb7.ex
          have he7 : H7 e = some (pairT y) := sb7 _ _ he (pne k61 he)
          have hb7 : H7 b = some (pairT p) := sb7 _ _ hb6 (pne k61 hb6)
          have hg7 : GridAt H7 a g := sb7 _ _ hg6 had
          have get_y := DGet.t (k := key y) k1 he7
          rw [k2] at get_y
          refine ⟨_, rfl, _, rfl, d, _, rfl, get_y, _, rfl, ?_⟩
          cases ey : F y with
          | none =>
            refine iteF ⟨_, _, ch, rfl, sb7, F, fb7.up (Nat.le_succ _), fr7, s4_next pt7 hy' (Le.refl F) (fun k z => by rw [ey] at z; cases z), hch⟩
          | some k =>
            rw [ey] at get_y
            refine iteT ?_
            have hk0 := (fr7.sound y k ey).nn
            have hkb := fb7.le y k ey
            refine ⟨_, rfl, _, rfl, d, .int k, rfl, get_y, ?_⟩
            refine ⟨_, rfl, _, rfl, a, e, g, y, rfl, hg7, ok, he7, fun H8 s8 => ?_⟩
            have get_p := DGet.t (k := key p) (s8 _ _ k1) (s8 _ _ hb7)
            rw [k2] at get_p
            refine ⟨_, _, rfl, rfl, _, rfl, d, rfl, .inr ⟨_, .of (s8 _ _ k1)⟩, _, rfl, _, _, rfl, rfl, ⟨by decide, by decide, by decide⟩, _, get_p, ?_⟩
            rw [getD_int]
            refine ⟨_, _, rfl, rfl, _, rfl, ?_⟩
            have sb8 := sb7.trans (Same.but s8)
            by_cases lt : k + cost g y < (F p).getD ((10 : Int) ^ (9 : Int).toNat)
            · rw [decide_eq_true lt]
              refine iteT ?_
              refine ⟨_, rfl, _, rfl, d, .int k, rfl, ?_, ?_⟩
              · have z := DGet.t (k := key y) (s8 _ _ k1) (s8 _ _ he7)
                rw [k2, ey] at z
                exact z
              refine ⟨_, rfl, _, rfl, a, e, g, y, rfl, s8 _ _ hg7, ok, s8 _ _ he7, fun H9 s9 => ?_⟩
              refine ⟨_, _, rfl, rfl, ?_⟩
              refine ⟨_, rfl, _, rfl, d, _, rfl, DPut.t (k := key p) (s9 _ _ (s8 _ _ k1)) (s9 _ _ (s8 _ _ hb7)) (Nat.lt_of_le_of_lt k3 (Nat.lt_of_lt_of_le (by omega : _ < 10000) (by decide))), ?_⟩
              refine ⟨_, _, true, rfl, (sb8.trans (Same.but s9)).upd, setF F p (k + cost g y), ?_, ?_, ?_, fun z => by cases z⟩
              · have z := farB_put (H := H9) (d := d) (p := p) (k := k + cost g y) (c := 16 + 144 * t + 4 * i + j) k2 k3 fb7.le (by omega)
                exact z
              · refine far_setF fr7 hc hyn ey fun hg0 => ?_
                rw [fr7.goal p hg0 hc] at lt
                have lt' : k + cost g y < 0 := lt
                omega
              · refine s4_next pt7 hy' (le_setF fun j' ej => ?_) fun k' ek => ?_
                · rw [ej] at lt
                  have lt' : k + cost g y < j' := lt
                  omega
                · rw [ey] at ek
                  injection ek with ek
                  exact ⟨k + cost g y, by rw [← ep]; exact setF_same F p _, by omega⟩
            · rw [decide_eq_false lt]
              refine iteF ⟨_, _, ch, rfl, sb8, F, (fb7.same s8).up (Nat.le_succ _), fr7, s4_next pt7 hy' (Le.refl F) (fun k' ek => ?_), hch⟩
              rw [ey] at ek
              injection ek with ek
              cases epv : F p with
              | none =>
                rw [epv] at lt
                refine absurd ?_ lt
                show k + cost g y < (10 : Int) ^ (9 : Int).toNat
                have e9 : (10 : Int) ^ (9 : Int).toNat = 1000000000 := by decide
                rw [e9]
                omega
              | some j' =>
                rw [epv] at lt
                have lt' : ¬ k + cost g y < j' := lt
                exact ⟨j', by rw [← ep]; exact epv, by omega⟩
        · obtain ⟨d3, d7, ch, rfl, sb7, F, fb7, fr7, pt7, hch⟩ := z
          have el : (as6.map V.ref).length = (bes g (cell g i)).length := by
            rw [List.length_map, ra6.1, ep]
          rw [el] at fb7 pt7
          have l4 := bes_len g (cell g i)
          exact ⟨_, _, _, ch, rfl, sb6.trans sb7, F, fb7.up (by omega), fr7, s3_open pt7, hch⟩
      · obtain ⟨d3, d6, d7, ch, rfl, sb4, F, fb4, fr4, pt4, hch⟩ := z
        rw [List.length_map, ra2.1, cl_len] at fb4 pt4
        have rd := s3_round pt4
        have sb5 := sbc.trans sb4
        refine ⟨_, rfl, ch, rfl, ?_⟩
        cases ch with
        | false =>
          have eF := hch rfl
          subst eF
          refine iteT ?_
          exact ⟨_, rfl, fin F H4 _ sb5 (by omega) fb4 fr4 (all_break fr4 rd)⟩
        | true =>
          refine iteF ?_
          exact ⟨_, _, _, _, _, rfl, sb5, F, fb4.up (by omega), fr4, pr3.next fr3 rd⟩
    · obtain ⟨d3, d4, d5, d6, d7, rfl, sb3, F, fb3, fr3, pr3⟩ := z
      have en : ((gs g).length : Int).toNat = g.n := by
        rw [slen]
        exact Int.toNat_natCast _
      rw [en] at fb3 pr3
      exact ⟨_, rfl, fin F H3 _ sb3 (by omega) fb3 fr3 pr3.all⟩
end
end Kf
namespace Kf
open PySem L2
section
variable {Pr : Program} {w : World} {K : PySem.W.Frag} {mg : Str → Option Value} {base : Heap}
/-! ### _law_equal -/
abbrev nEq : List Str := ["_law_actual", "_law_due", "_law_at"]
abbrev pEq : List Str := ["_law_actual", "_law_due"]
theorem scEq : FnScope nEq pEq (defScope sEqual) := ⟨rfl, rfl, rfl, by decide +kernel, rfl, by decide +kernel, by decide +kernel⟩
/-- the items: None, or a number -/
def spE0 : Sp := fun vs H Q _ => ∃ (v : V) (o : Option Int), vs = [v, ofO o] ∧ simple v = true ∧ Q (.bl (decide (v = ofO o))) H
theorem kIS : kitB "int" "str" = some false := by decide +kernel
theorem ok_e0 {f f1 : Addr} {fd fd1 : FuncData} (D : Df K mg "_law_equal" "_law_equal" "_law_equal" sEqual pEq f fd) (B : Bi mg)
    (D1 : Df K mg "_law_is_integer" "_law_is_integer" "_law_is_integer" sIsInt ["_law_actual"] f1 fd1) (F1 : FnOk Pr w K mg base CX0 1 f1 fd1 ["_law_actual"] spWo) : FnOk Pr w K mg base CX0 2 f fd pEq spE0 := by
  refine D.F.ok scEq (fun vs H Q E h => ?_) (fun cdv A outer s H vs Q E hr h => ?_)
  · obtain ⟨v, o, rfl, _⟩ := h
    rfl
  · obtain ⟨v, o, rfl, hs, q⟩ := h
    refine ⟨_, pss_cons (ps_if (pt_cmpR op_isN (pv 1) pe_non (nomark _)) (pss_one (ps_ret (pe_cmpR op_isN (pv 0) pe_non (nomark _)))) pss_nil)
      (pss_cons (ps_if (pt_val (pe_isT "bool" B.isi B.bool (pv 1))) pss_never pss_nil)
      (pss_cons (ps_if (pt_val (pe_isT "int" B.isi B.int (pv 1))) (pss_one (ps_ret (pe_and (pe_call F1 hr (by rfl) D1.m D1.F.kp D1.b .nil pass0 (pa_cons (pv 0) pa_nil)) (pe_one (pe_cmpR op_eq (pv 0) (pv 1) (nomark _)))))) pss_nil)
      pss_never)), ?_⟩
    cases o with
    | none => exact ⟨_, rfl, rfl, _, rfl, iteT ⟨_, rfl, rfl, q⟩⟩
    | some k =>
      refine ⟨_, rfl, rfl, _, rfl, iteF ?_⟩
      refine ⟨_, rfl, _, _, _, _, rfl, .base (.int _), kIB, false, rfl, iteF ?_⟩
      refine ⟨_, rfl, _, _, _, _, rfl, .base (.int _), kII, true, rfl, iteT ?_⟩
      refine ⟨_, rfl, v, rfl, hs, isInt v, rfl, ?_⟩
      cases v with
      | non => exact iteF q
      | bl b => exact iteF q
      | int j => exact iteT ⟨_, rfl, _, rfl, rfl, q⟩
      | str _ => cases hs
      | byt _ => cases hs
      | flt _ => cases hs
      | ref _ => cases hs
      | ty _ => cases hs
def spE1 : Sp := fun vs H Q _ => ∃ (v : V) (fa : Addr) (fs : List (Option Int)), vs = [v, .ref fa] ∧ Arg H v ∧ H fa = some (.tup (fs.map ofO)) ∧ fs.length ≤ 1000 ∧
  ∀ (b : Bool) (H' : Hp), (b = true ↔ ∃ a', v = .ref a' ∧ H a' = some (.tup (fs.map ofO))) → Same H H' → Q (.bl b) H'
def sameI (xs ys : List V) (j : Nat) : Bool := decide (xs[j]? = ys[j]?)
theorem sameI_at {xs ys : List V} {j : Nat} {x y : V} (h1 : xs[j]? = some x) (h2 : ys[j]? = some y) : decide (x = y) = sameI xs ys j := by
  unfold sameI
  rw [h1, h2]
  by_cases e : x = y
  · rw [decide_eq_true e, decide_eq_true (congrArg some e)]
  · rw [decide_eq_false e, decide_eq_false fun z => e (Option.some.inj z)]
theorem sameI_all {xs ys : List V} (hl : xs.length = ys.length) : ((List.range ys.length).map (sameI xs ys)).all id = true ↔ xs = ys := by
  rw [List.all_map, List.all_eq_true]
  constructor
  · intro h
    refine List.ext_getElem? fun i => ?_
    by_cases hi : i < ys.length
    · exact of_decide_eq_true (h i (List.mem_range.mpr hi))
    · rw [List.getElem?_eq_none (by omega), List.getElem?_eq_none (by omega)]
  · rintro rfl i _
    exact decide_eq_true rfl
theorem ok_e1 {f : Addr} {fd : FuncData} (D : Df K mg "_law_equal" "_law_equal" "_law_equal" sEqual pEq f fd) (B : Bi mg)
    (F0 : FnOk Pr w K mg base CX0 2 f fd pEq spE0) : FnOk Pr w K mg base CX0 3 f fd pEq spE1 := by
  refine D.F.ok scEq (fun vs H Q E h => ?_) (fun cdv A outer s H vs Q E hr h => ?_)
  · obtain ⟨v, fa, fs, rfl, _⟩ := h
    rfl
  · obtain ⟨v, fa, fs, rfl, hv, hf, hl, q⟩ := h
    refine ⟨_, pss_cons (ps_if (pt_cmpR op_isN (pv 1) pe_non (nomark _)) pss_never pss_nil)
      (pss_cons (ps_if (pt_val (pe_isT "bool" B.isi B.bool (pv 1))) pss_never pss_nil)
      (pss_cons (ps_if (pt_val (pe_isT "int" B.isi B.int (pv 1))) pss_never pss_nil)
      (pss_cons (ps_if (pt_val (pe_isT "str" B.isi B.str (pv 1))) pss_never pss_nil)
      (pss_cons (ps_if (PW.pt (pw_and (pt_val (pe_isT "tuple" B.isi B.tuple (pv 1))) (pw_and1 (pt_not (pt_val (pe_isT "tuple" B.isi B.tuple (pv 0))))))) (pss_one (ps_ret pe_bl)) pss_nil)
      (pss_cons (ps_if (PW.pt (pw_and (pt_val (pe_isT "list" B.isi B.list (pv 1))) (pw_and1 (pt_not (pt_val (pe_isT "list" B.isi B.list (pv 0))))))) pss_never pss_nil)
      (pss_cons (ps_if (pt_cmpR op_ne (pe_callB call_len_seq (by rfl) B.len (by decide +kernel) (pa_cons (pv 0) pa_nil)) (pe_callB call_len_seq (by rfl) B.len (by decide +kernel) (pa_cons (pv 1) pa_nil)) (nomark _)) (pss_one (ps_ret pe_bl)) pss_nil)
      (pss_one (ps_ret (pe_callB (cr_all rfl) (by rfl) B.all (by decide +kernel) (pa_cons
        (pe_lc (own := [("_law_at", 2)]) (g := gName 2) (tt := tYes) rfl scEq.nd (pi_range1 (by rfl) B.range (pa_cons (pe_callB call_len_seq (by rfl) B.len (by decide +kernel) (pa_cons (pv 1) pa_nil)) pa_nil))
          (blkOk_by (own := [("_law_at", 2)]) (N := nEq) (sc := defScope sEqual) (by decide +kernel))
          (fun _ _ _ _ _ => pg_name (i := 2) scEq.nd rfl (Or.inl rfl)) (fun _ _ _ _ _ => pts_nil)
          (fun _ _ _ _ _ => pe_call F0 hr (by rfl) D.m D.F.kp D.b .nil pass0 (pa_cons (pe_ix (r := rIxT K) ix_tup (pv 0) (pv 2) (fun _ _ => rfl)) (pa_cons (pe_ix (r := rIxT K) ix_tup (pv 1) (pv 2) (fun _ _ => rfl)) pa_nil)))) pa_nil)))))))))), ?_⟩
    refine ⟨_, rfl, rfl, _, rfl, iteF ?_⟩
    refine ⟨_, rfl, _, _, _, _, rfl, .base (.tup hf), kTB, false, rfl, iteF ?_⟩
    refine ⟨_, rfl, _, _, _, _, rfl, .base (.tup hf), kTI, false, rfl, iteF ?_⟩
    refine ⟨_, rfl, _, _, _, _, rfl, .base (.tup hf), kTS, false, rfl, iteF ?_⟩
    refine ⟨_, rfl, _, _, _, _, rfl, .base (.tup hf), kTT, true, rfl, iteT ?_⟩
    cases hv with
    | non => exact ⟨_, rfl, _, _, _, _, rfl, .base .non, kNT, false, rfl, iteT (q false H ⟨fun z => (nomatch z), fun ⟨_, z, _⟩ => (nomatch z)⟩ (Same.refl H))⟩
    | int i => exact ⟨_, rfl, _, _, _, _, rfl, .base (.int _), kIT, false, rfl, iteT (q false H ⟨fun z => (nomatch z), fun ⟨_, z, _⟩ => (nomatch z)⟩ (Same.refl H))⟩
    | lst hl2 =>
      refine ⟨_, rfl, _, _, _, _, rfl, .base (.lst hl2), kLT, false, rfl, iteT (q false H ⟨fun z => (nomatch z), fun ⟨a', z, h2⟩ => ?_⟩ (Same.refl H))⟩
      injection z with z
      rw [← z, hl2] at h2
      cases h2
    | tup ht hs hl1 =>
      rename_i va xs
      refine ⟨_, rfl, _, _, _, _, rfl, .base (.tup ht), kTT, true, rfl, iteF ?_⟩
      refine ⟨_, rfl, _, _, _, _, rfl, .base (.tup hf), kTL, false, rfl, iteF ?_⟩
      have red : (∃ a', V.ref va = .ref a' ∧ H a' = some (.tup (fs.map ofO))) ↔ xs = fs.map ofO := by
        constructor
        · rintro ⟨a', z, h2⟩
          injection z with z
          subst z
          rw [ht] at h2
          injection h2 with h2
          injection h2 with h2
        · intro z
          exact ⟨va, rfl, by rw [← z]; exact ht⟩
      refine ⟨_, rfl, va, _, rfl, .inr (SqT.of ht), _, rfl, fa, _, rfl, .inr (SqT.of hf), rfl, _, rfl, ?_⟩
      by_cases hlen : xs.length = (fs.map ofO).length
      rotate_left
      · have hd : decide (V.int ((xs.length : Nat) : Int) = V.int (((fs.map ofO).length : Nat) : Int)) = false := decide_eq_false fun z => hlen (by injection z with z; exact Int.ofNat.inj z)
        rw [hd]
        refine iteT (q false H ⟨fun z => (nomatch z), fun z => ?_⟩ (Same.refl H))
        exact absurd (congrArg List.length (red.mp z)) hlen
      rw [hlen]
      refine iteNS rfl ?_
      have hl3 : (fs.map ofO).length ≤ 1000 := by
        rw [List.length_map]
        exact hl
      refine ⟨_, rfl, fa, _, rfl, .inr (SqT.of hf), _, rfl, by omega, by omega, fun Dl hD => ?_⟩
      refine lc_range (lo := 0) (n := (((fs.map ofO).length : Nat) : Int).toNat) (fun i H' => Same H H' ∧ H' Dl = some (.lst (((List.range i).map (sameI xs (fs.map ofO))).map V.bl))) ⟨same_new hD, upd_same⟩ (fun i H1 hi z => ?_) fun H1 z => ?_
      · obtain ⟨s1, e1⟩ := z
        have hi' : i < fs.length := by
          rw [List.length_map] at hi
          omega
        have hx : i < xs.length := by
          rw [hlen, List.length_map]
          exact hi'
        have gx := List.getElem?_eq_getElem hx
        have gf : (fs.map ofO)[i]? = some (ofO fs[i]) := by
          rw [List.getElem?_map, List.getElem?_eq_getElem hi']
          rfl
        have hsx : simple xs[i] = true := List.all_eq_true.mp hs _ (List.getElem_mem hx)
        generalize xs[i] = x at gx hsx
        refine ⟨rfl, yes (iteT ?_)⟩
        refine ⟨_, rfl, _, rfl, va, xs, _, x, rfl, rfl, SqT.of (s1 _ _ ht), at_gen (j := i) (Int.zero_add _) gx, ?_⟩
        refine ⟨_, rfl, _, rfl, fa, _, _, _, rfl, rfl, SqT.of (s1 _ _ hf), at_gen (j := i) (Int.zero_add _) gf, ?_⟩
        refine ⟨x, fs[i], rfl, hsx, ?_⟩
        rw [sameI_at gx gf]
        refine ⟨_, e1, ?_, same_at s1 hD, ?_⟩
        · rw [List.length_map, List.length_map, List.length_range]
          exact small1000 (by omega)
        · rw [upd_same, List.range_succ, List.map_append, List.map_append]
          rfl
      · obtain ⟨s1, e1⟩ := z
        have en : (((fs.map ofO).length : Nat) : Int).toNat = (fs.map ofO).length := Int.toNat_natCast _
        rw [en] at e1
        exact ⟨Dl, _, rfl, SqL.of e1, q _ H1 ((sameI_all hlen).trans red.symm) s1⟩
/-! ### _law_turned -/
def spTu : Sp := fun vs H Q _ => ∃ (S L fa : Addr) (xs : List V), vs = [.ref S, .ref fa] ∧ StrAt H S L ∧ H fa = some (.tup xs) ∧ xs.all simple = true ∧ 1 ≤ xs.length ∧ xs.length ≤ 36 ∧
  ∀ (t : Addr) (ys : List V) (H' : Hp), H t = none → H' t = some (.tup ys) → ys.all simple = true → ys.length = xs.length → StrAt H' S L → SameBut S H H' → Q (.ref t) H'
abbrev nTu : List Str := ["_law_stream_here", "_law_field", "_law_found", "_law_turn", "_law_at", "_law_item", "_law_pick"]
theorem scTu : FnScope nTu ["_law_stream_here", "_law_field"] (defScope sTurned) := ⟨rfl, rfl, rfl, by decide +kernel, rfl, by decide +kernel, by decide +kernel⟩
theorem ixN_of {n : Nat} {d : Int} (h0 : 0 ≤ d) (h1 : d < (n : Int)) : ixN n d = some d.toNat := by
  unfold ixN
  rw [if_pos h0, if_pos h1]
theorem all_set {xs : List V} {v : V} (h : xs.all simple = true) (hv : simple v = true) (j : Nat) : (xs.set j v).all simple = true := by
  rw [List.all_eq_true] at *
  intro x hx
  rcases List.mem_or_eq_of_mem_set hx with z | z
  · exact h x z
  · rw [z]
    exact hv
theorem ok_tu {f f1 f2 : Addr} {fd fd1 fd2 : FuncData} (D : Df K mg "_law_turned" "_law_turned" "_law_turned" sTurned ["_law_stream_here", "_law_field"] f fd) (B : Bi mg)
    (D1 : Df K mg "_law_next" "_law_next" "_law_next" sNext ["_law_stream_here", "_law_many"] f1 fd1) (F1 : FnOk Pr w K mg base CX0 1 f1 fd1 ["_law_stream_here", "_law_many"] spNx)
    (D2 : Df K mg "_law_is_integer" "_law_is_integer" "_law_is_integer" sIsInt ["_law_actual"] f2 fd2) (F2 : FnOk Pr w K mg base CX0 1 f2 fd2 ["_law_actual"] spWo) : FnOk Pr w K mg base CX0 2 f fd ["_law_stream_here", "_law_field"] spTu := by
  refine D.F.ok scTu (fun vs H Q E h => ?_) (fun cdv A outer s H vs Q E hr h => ?_)
  · obtain ⟨S, L, fa, xs, rfl, _⟩ := h
    rfl
  · obtain ⟨S, L, fa, xs, rfl, hS, hf, hs, l1, l36, q⟩ := h
    refine ⟨_, pss_cons (ps_set (i := 2) scTu.nd rfl (.inl rfl) (pe_callTy call_list_of (by rfl) B.list (by decide +kernel) (pa_cons (pv 1) pa_nil)))
      (pss_cons (ps_for PassesOwn.never rfl (pi_range1 (by rfl) B.range (pa_cons (pe_op op_add pe_int (pe_call F1 hr (by rfl) D1.m D1.F.kp D1.b .nil pass0 (pa_cons (pv 0) (pa_cons pe_int pa_nil)))) pa_nil)) (pg_name (i := 3) scTu.nd rfl (.inl rfl))
        (pss_cons (ps_set (i := 4) scTu.nd rfl (.inl rfl) (pe_call F1 hr (by rfl) D1.m D1.F.kp D1.b .nil pass0 (pa_cons (pv 0) (pa_cons (pe_callB call_len_seq (by rfl) B.len (by decide +kernel) (pa_cons (pv 2) pa_nil)) pa_nil))))
        (pss_cons (ps_set (i := 5) scTu.nd rfl (.inl rfl) (pe_ix ix_list (pv 2) (pv 4) (fun _ _ => rfl)))
        (pss_cons (ps_set (i := 6) scTu.nd rfl (.inl rfl) (pe_call F1 hr (by rfl) D1.m D1.F.kp D1.b .nil pass0 (pa_cons (pv 0) (pa_cons pe_int pa_nil))))
        (pss_one (ps_if (PW.pt (pw_and (pt_cmpR op_eq (pv 6) pe_int (nomark _)) (pw_and1 (pt_val (pe_call F2 hr (by rfl) D2.m D2.F.kp D2.b .nil pass0 (pa_cons (pv 5) pa_nil))))))
          (pss_one (ps_asg (pe_op op_add (pv 5) pe_int) (pg_sub (pv 2) (pv 4) set_list)))
          (pss_one (ps_if (PW.pt (pw_and (pt_cmpR op_eq (pv 6) pe_int (nomark _)) (pw_and1 (pt_val (pe_call F2 hr (by rfl) D2.m D2.F.kp D2.b .nil pass0 (pa_cons (pv 5) pa_nil))))))
            (pss_one (ps_asg (pe_op op_sub (pv 5) pe_int) (pg_sub (pv 2) (pv 4) set_list)))
            (pss_one (ps_if (pt_cmpR op_eq (pv 6) pe_int (nomark _))
              (pss_one (ps_asg (pe_ix ix_list (pe_lst (pa_cons pe_non (pa_cons pe_int (pa_cons pe_bl pa_nil)))) (pe_call F1 hr (by rfl) D1.m D1.F.kp D1.b .nil pass0 (pa_cons (pv 0) (pa_cons pe_int pa_nil))) (fun _ _ => rfl)) (pg_sub (pv 2) (pv 4) set_list)))
              (pss_one (ps_if (pt_cmpR op_eq (pv 6) pe_int (nomark _))
                (pss_one (ps_asg (pe_ix ix_list (pv 2) (pe_call F1 hr (by rfl) D1.m D1.F.kp D1.b .nil pass0 (pa_cons (pv 0) (pa_cons (pe_callB call_len_seq (by rfl) B.len (by decide +kernel) (pa_cons (pv 2) pa_nil)) pa_nil))) (fun _ _ => rfl)) (pg_sub (pv 2) (pv 4) set_list)))
                (pss_one (ps_asg (pe_call F1 hr (by rfl) D1.m D1.F.kp D1.b .nil pass0 (pa_cons (pv 0) (pa_cons pe_int pa_nil))) (pg_sub (pv 2) (pv 4) set_list)))))))))))))))
      (pss_one (ps_ret (pe_callTy call_tuple_of (by rfl) B.tuple (by decide +kernel) (pa_cons (pv 2) pa_nil))))), ?_⟩
    refine ⟨_, rfl, fa, _, rfl, .inr (SqT.of hf), fun l hl => ?_⟩
    have nl := hS.fresh hl
    have hS1 : StrAt (upd H l (.lst xs)) S L := hS.new hl
    refine ⟨_, rfl, S, L, 3, rfl, hS1, by decide, by decide, fun d1 H1 a1 b1 hS2 s1 => ?_⟩
    have sb1 : SameBut S H H1 := ((SameBut.refl S H).new hl).trans s1
    have hl1 : H1 l = some (.lst xs) := s1 _ _ upd_same nl.1
    refine ⟨_, _, rfl, rfl, 1 + d1, rfl, by omega, by omega, ?_⟩
    refine for_range (lo := 0) (n := (1 + d1).toNat) (fun i σ H' => ∃ d3 d4 d5 d6, σ = [some (.ref S), some (.ref fa), some (.ref l), d3, d4, d5, d6] ∧ SameBut S H H' ∧ StrAt H' S L ∧ ∃ ys, H' l = some (.lst ys) ∧ ys.all simple = true ∧ ys.length = xs.length)
      ⟨none, none, none, none, rfl, sb1, hS2, xs, hl1, hs, rfl⟩ (fun i σ H2 hi z => ?_) fun σ H2 z => ?_
    · obtain ⟨d3, d4, d5, d6, rfl, sb2, hS3, ys, hy, hys, hyl⟩ := z
      refine ⟨_, rfl, _, rfl, l, _, rfl, .inl (SqL.of hy), S, L, ((ys.length : Nat) : Int), rfl, hS3, by omega, by omega, fun d H3 a3 b3 hS4 s3 => ?_⟩
      have hy3 := s3 _ _ hy nl.1
      have hdn : d.toNat < ys.length := by omega
      refine ⟨_, rfl, _, rfl, l, _, _, _, rfl, rfl, SqL.of hy3, at_gen (j := d.toNat) (by omega) (List.getElem?_eq_getElem hdn), ?_⟩
      have hsi : simple ys[d.toNat] = true := List.all_eq_true.mp hys _ (List.getElem_mem hdn)
      generalize ys[d.toNat] = item at hsi ⊢
      refine ⟨_, rfl, S, L, 5, rfl, hS4, by decide, by decide, fun pk H4 a4 b4 hS5 s4 => ?_⟩
      have hy4 := s4 _ _ hy3 nl.1
      have sb4 := (sb2.trans s3).trans s4
      have fin : ∀ (v : V) (H5 : Hp), simple v = true → H5 l = some (.lst ys) → SameBut S H H5 → StrAt H5 S L →
          (∃ p zs k j, V.ref l = .ref p ∧ V.int d = .int k ∧ H5 p = some (.lst zs) ∧ ixN zs.length k = some j ∧
            (∃ d3 d4 d5 d6, ([some (V.ref S), some (V.ref fa), some (V.ref l), some (V.int (0 + (i : Int))), some (V.int d), some item, some (V.int pk)] : L2.St) = [some (.ref S), some (.ref fa), some (.ref l), d3, d4, d5, d6] ∧
              SameBut S H (upd H5 p (.lst (zs.set j v))) ∧ StrAt (upd H5 p (.lst (zs.set j v))) S L ∧ ∃ us, (upd H5 p (.lst (zs.set j v))) l = some (.lst us) ∧ us.all simple = true ∧ us.length = xs.length)) := by
        intro v H5 hv h5 sb5 hS6
        refine ⟨l, ys, d, d.toNat, rfl, rfl, h5, ixN_of a3 b3, _, _, _, _, rfl, fun b o e n => ?_, hS6.wr nl, _, upd_same, all_set hys hv _, ?_⟩
        · rw [upd_ne (ne_of_none e hl)]
          exact sb5 b o e n
        · rw [List.length_set]
          exact hyl
      refine ⟨_, rfl, rfl, _, rfl, ?_⟩
      have five : pk = 0 ∨ pk = 1 ∨ pk = 2 ∨ pk = 3 ∨ pk = 4 := by omega
      rcases five with rfl | rfl | rfl | rfl | rfl
      · refine iteB (by decide) ?_
        refine ⟨_, rfl, item, rfl, hsi, _, rfl, ?_⟩
        cases ei : isInt item with
        | true =>
          refine iteT ?_
          cases item with
          | int j0 => exact ⟨_, rfl, _, _, rfl, rfl, _, rfl, _, rfl, fin (.int (j0 + 1)) H4 rfl hy4 sb4 hS5⟩
          | _ => cases ei
        | false =>
          refine iteF ?_
          refine ⟨_, rfl, rfl, _, rfl, iteBF (by decide) (iteF ?_)⟩
          refine ⟨_, rfl, rfl, _, rfl, iteBF (by decide) ?_⟩
          refine ⟨_, rfl, rfl, _, rfl, iteBF (by decide) ?_⟩
          refine ⟨_, rfl, S, L, 9, rfl, hS5, by decide, by decide, fun d5 H5 a5 b5 hS6 s5 => ?_⟩
          exact ⟨_, rfl, _, rfl, fin (.int d5) H5 rfl (s5 _ _ hy4 nl.1) (sb4.trans s5) hS6⟩
      · refine iteBF (by decide) (iteF ?_)
        refine ⟨_, rfl, rfl, _, rfl, iteB (by decide) ?_⟩
        refine ⟨_, rfl, item, rfl, hsi, _, rfl, ?_⟩
        cases ei : isInt item with
        | true =>
          refine iteT ?_
          cases item with
          | int j0 => exact ⟨_, rfl, _, _, rfl, rfl, _, rfl, _, rfl, fin (.int (j0 - 1)) H4 rfl hy4 sb4 hS5⟩
          | _ => cases ei
        | false =>
          refine iteF ?_
          refine ⟨_, rfl, rfl, _, rfl, iteBF (by decide) ?_⟩
          refine ⟨_, rfl, rfl, _, rfl, iteBF (by decide) ?_⟩
          refine ⟨_, rfl, S, L, 9, rfl, hS5, by decide, by decide, fun d5 H5 a5 b5 hS6 s5 => ?_⟩
          exact ⟨_, rfl, _, rfl, fin (.int d5) H5 rfl (s5 _ _ hy4 nl.1) (sb4.trans s5) hS6⟩
      · refine iteBF (by decide) (iteF ?_)
        refine ⟨_, rfl, rfl, _, rfl, iteBF (by decide) (iteF ?_)⟩
        refine ⟨_, rfl, rfl, _, rfl, iteB (by decide) ?_⟩
        refine ⟨(by show 3 ≤ sizeLine; decide), fun p hp => ?_⟩
        refine ⟨_, rfl, S, L, 3, rfl, hS5.new hp, by decide, by decide, fun d5 H5 a5 b5 hS6 s5 => ?_⟩
        have np := (hS5.fresh hp).1
        have sn : Same H4 (upd H4 p (.lst [.non, .int 0, .bl true])) := same_new hp
        have hp5 := s5 _ _ (upd_same (H := H4) (a := p) (o := .lst [.non, .int 0, .bl true])) np
        have h3 : d5.toNat < ([.non, .int 0, .bl true] : List V).length := by
          show d5.toNat < 3
          omega
        have g5 := List.getElem?_eq_getElem h3
        have hv5 : simple ([.non, .int 0, .bl true] : List V)[d5.toNat] = true := List.all_eq_true.mp (show ([.non, .int 0, .bl true] : List V).all simple = true from rfl) _ (List.getElem_mem h3)
        generalize ([.non, .int 0, .bl true] : List V)[d5.toNat] = v5 at g5 hv5
        refine ⟨p, _, _, v5, rfl, rfl, SqL.of hp5, at_gen (j := d5.toNat) (by omega) g5, ?_⟩
        exact ⟨_, rfl, _, rfl, fin v5 H5 hv5 (s5 _ _ (sn _ _ hy4) nl.1) ((sb4.trans (Same.but sn)).trans s5) hS6⟩
      · refine iteBF (by decide) (iteF ?_)
        refine ⟨_, rfl, rfl, _, rfl, iteBF (by decide) (iteF ?_)⟩
        refine ⟨_, rfl, rfl, _, rfl, iteBF (by decide) ?_⟩
        refine ⟨_, rfl, rfl, _, rfl, iteB (by decide) ?_⟩
        refine ⟨_, rfl, _, rfl, _, rfl, l, _, rfl, .inl (SqL.of hy4), S, L, ((ys.length : Nat) : Int), rfl, hS5, by omega, by omega, fun d5 H5 a5 b5 hS6 s5 => ?_⟩
        have hy5 := s5 _ _ hy4 nl.1
        have hd5 : d5.toNat < ys.length := by omega
        refine ⟨l, _, _, ys[d5.toNat], rfl, rfl, SqL.of hy5, at_gen (j := d5.toNat) (by omega) (List.getElem?_eq_getElem hd5), ?_⟩
        exact ⟨_, rfl, _, rfl, fin _ H5 (List.all_eq_true.mp hys _ (List.getElem_mem hd5)) hy5 (sb4.trans s5) hS6⟩
      · refine iteBF (by decide) (iteF ?_)
        refine ⟨_, rfl, rfl, _, rfl, iteBF (by decide) (iteF ?_)⟩
        refine ⟨_, rfl, rfl, _, rfl, iteBF (by decide) ?_⟩
        refine ⟨_, rfl, rfl, _, rfl, iteBF (by decide) ?_⟩
        refine ⟨_, rfl, S, L, 9, rfl, hS5, by decide, by decide, fun d5 H5 a5 b5 hS6 s5 => ?_⟩
        exact ⟨_, rfl, _, rfl, fin (.int d5) H5 rfl (s5 _ _ hy4 nl.1) (sb4.trans s5) hS6⟩
    · obtain ⟨d3, d4, d5, d6, rfl, sb2, hS3, ys, hy, hys, hyl⟩ := z
      refine ⟨_, rfl, l, _, rfl, .inl ⟨SqL.of hy, fun t ht => ?_⟩⟩
      exact q t ys _ (sb2.free hS3 ht) upd_same hys hyl (hS3.new ht) (sb2.new ht)
end
end Kf
namespace Kf
open PySem L2
section
variable {Pr : Program} {w : World} {K : PySem.W.Frag} {mg : Str → Option Value} {base : Heap}
/-! ### _law_other -/
def spOt : Sp := fun vs H Q _ => ∃ (S L a ga fa : Addr) (g : Gd) (ps : List P) (fs : List (Option Int)), vs = [.ref S, .ref a, .ref ga, .ref fa] ∧ StrAt H S L ∧ GridAt H a g ∧ g.Ok ∧ GoalsAt H ga ps ∧ 1 ≤ ps.length ∧ ps.length ≤ 16 ∧ H fa = some (.tup (fs.map ofO)) ∧ fs.length = g.n ∧
  ∀ (v : V) (H' : Hp), Arg H' v → StrAt H' S L → SameBut S H H' → Q v H'
abbrev nOt : List Str := ["_law_stream_here", "_law_grid_here", "_law_goals", "_law_field", "_law_pick", "_law_far", "_law_raised", "_law_found", "_law_item", "_law_cell"]
abbrev pOt : List Str := ["_law_stream_here", "_law_grid_here", "_law_goals", "_law_field"]
theorem scOt : FnScope nOt pOt (defScope sOther) := ⟨rfl, rfl, rfl, by decide +kernel, rfl, by decide +kernel, by decide +kernel⟩
theorem cut1 (xs : List V) : cutV xs (some 1) none = xs.drop 1 := by
  unfold cutV
  rw [show HT.sIx xs.length 0 (some 1) = min 1 xs.length from HT.sIx_nat xs.length 0 1, HT.sIx_none]
  by_cases h : 1 ≤ xs.length
  · rw [Nat.min_eq_left h]
    have : (xs.drop 1).length = xs.length - 1 := List.length_drop
    rw [← this, List.take_length]
  · have e : xs = [] := List.length_eq_zero_iff.mp (by omega)
    subst e
    rfl
theorem simple_ofO (fs : List (Option Int)) : (fs.map ofO).all simple = true := by
  rw [List.all_eq_true]
  intro x hx
  obtain ⟨o, _, rfl⟩ := List.mem_map.mp hx
  cases o <;> rfl
theorem ofO_map (o : Option Int) : (o.map V.int).getD .non = ofO o := by cases o <;> rfl
theorem not_whole {n : Nat} (h : 1 ≤ n) : ¬ (HT.sIx n 0 (some 1) = 0 ∧ HT.sIx n n none = n) := by
  rintro ⟨z, _⟩
  have e : HT.sIx n 0 (some 1) = min 1 n := HT.sIx_nat n 0 1
  omega
theorem ok_ot {f f1 f2 f3 f4 f5 : Addr} {fd fd1 fd2 fd3 fd4 fd5 : FuncData} (D : Df K mg "_law_other" "_law_other" "_law_other" sOther pOt f fd) (B : Bi mg)
    (D1 : Df K mg "_law_next" "_law_next" "_law_next" sNext ["_law_stream_here", "_law_many"] f1 fd1) (F1 : FnOk Pr w K mg base CX0 1 f1 fd1 ["_law_stream_here", "_law_many"] spNx)
    (D2 : Df K mg "_law_turned" "_law_turned" "_law_turned" sTurned ["_law_stream_here", "_law_field"] f2 fd2) (F2 : FnOk Pr w K mg base CX0 2 f2 fd2 ["_law_stream_here", "_law_field"] spTu)
    (D3 : Df K mg "_law_distances" "_law_distances" "_law_distances" sDist ["_law_grid_here", "_law_goals"] f3 fd3) (F3 : FnOk Pr w K mg base CX0 3 f3 fd3 ["_law_grid_here", "_law_goals"] spDi)
    (D4 : Df K mg "_law_place" "_law_place" "_law_place" sPlace ["_law_stream_here", "_law_grid_here"] f4 fd4) (F4 : FnOk Pr w K mg base CX0 2 f4 fd4 ["_law_stream_here", "_law_grid_here"] spPl)
    (D5 : Df K mg "_law_cells" "_law_cells" "_law_cells" sCells ["_law_grid_here"] f5 fd5) (F5 : FnOk Pr w K mg base CX0 1 f5 fd5 ["_law_grid_here"] spCe) : FnOk Pr w K mg base CX0 4 f fd pOt spOt := by
  refine D.F.ok scOt (fun vs H Q E h => ?_) (fun cdv A outer s H vs Q E hr h => ?_)
  · obtain ⟨S, L, a, ga, fa, g, ps, fs, rfl, _⟩ := h
    rfl
  · obtain ⟨S, L, a, ga, fa, g, ps, fs, rfl, hS, hg, ok, hG, l1, l16, hf, hfl, q⟩ := h
    have hu := hu_of hr
    have hr1 := hr.mono (by decide : 1 ≤ 3)
    have hr2 := hr.mono (by decide : 2 ≤ 3)
    have n36 := ok.n36
    have n1 := ok.n1
    refine ⟨_, pss_cons (ps_set (i := 4) scOt.nd rfl (.inl rfl) (pe_call F1 hr1 (by rfl) D1.m D1.F.kp D1.b .nil pass0 (pa_cons (pv 0) (pa_cons pe_int pa_nil))))
      (pss_cons (ps_if (pt_cmpR op_lt (pv 4) pe_int (nomark _)) (pss_one (ps_ret (pe_call F2 hr2 (by rfl) D2.m D2.F.kp D2.b .nil pass0 (pa_cons (pv 0) (pa_cons (pv 3) pa_nil))))) pss_nil)
      (pss_cons (ps_if (pt_cmpR op_eq (pv 4) pe_int (nomark _))
        (pss_cons (ps_set (i := 5) scOt.nd rfl (.inr rfl) (pe_call F3 hr (by rfl) D3.m D3.F.kp D3.b .nil pass0 (pa_cons (pv 1) (pa_cons
          (pe_op op_cat (pe_lst (pa_cons (pe_call F4 hr2 (by rfl) D4.m D4.F.kp D4.b .nil pass0 (pa_cons (pv 0) (pa_cons (pv 1) pa_nil))) pa_nil))
            (pe_callTy call_list_of (by rfl) B.list (by decide +kernel) (pa_cons (pe_slice sl_tup (pv 2) (po_some pe_int) po_none) pa_nil))) pa_nil))))
        (pss_one (ps_ret (pe_callTy call_tuple_of (by rfl) B.tuple (by decide +kernel) (pa_cons
          (pe_lc (own := [("_law_cell", 9)]) (g := gName 9) (tt := tYes) rfl scOt.nd (pi_list (pe_call F5 hr1 (by rfl) D5.m D5.F.kp D5.b .nil pass0 (pa_cons (pv 1) pa_nil))) (blkOk_by (own := [("_law_cell", 9)]) (N := nOt) (sc := defScope sOther) (by decide +kernel))
            (fun _ _ _ _ _ => pg_name (i := 9) scOt.nd rfl (Or.inl rfl)) (fun _ _ _ _ _ => pts_nil) (fun _ _ _ _ _ => pe_dget1 hu (pv 5) (pv 9) ⟨by rfl, by rfl, by rfl, by rfl⟩)) pa_nil))))) pss_nil)
      (pss_cons (ps_if (pt_cmpR op_eq (pv 4) pe_int (nomark _))
        (pss_one (ps_ret (pe_ix ix_list (pe_lst (pa_cons (pe_callTy call_list_of (by rfl) B.list (by decide +kernel) (pa_cons (pv 3) pa_nil)) (pa_cons (pe_op op_catT (pv 3) (pe_tup (pa_cons pe_non pa_nil)))
          (pa_cons (pe_slice sl_tup (pv 3) (po_some pe_int) po_none) (pa_cons pe_non (pa_cons pe_int pa_nil)))))) (pe_call F1 hr1 (by rfl) D1.m D1.F.kp D1.b .nil pass0 (pa_cons (pv 0) (pa_cons pe_int pa_nil))) (fun _ _ => rfl)))) pss_nil)
      (pss_cons (ps_set (i := 6) scOt.nd rfl (.inl rfl) (pe_op op_add pe_int (pe_call F1 hr1 (by rfl) D1.m D1.F.kp D1.b .nil pass0 (pa_cons (pv 0) (pa_cons pe_int pa_nil)))))
      (pss_cons (ps_set (i := 7) scOt.nd rfl (.inl rfl) (pe_lst pa_nil))
      (pss_cons (ps_for PassesOwn.never rfl (pi_tup (pv 3)) (pg_name (i := 8) scOt.nd rfl (.inl rfl))
        (pss_one (ps_if (pt_cmpR op_isN (pv 8) pe_non (nomark _))
          (pss_one (ps_expr (pe_bm PySem.F.plainAttrs_list PySem.F.slot_list_append PySem.F.type_list_append mt_append (pv 7) (pa_cons
            (pe_ix ix_list (pe_lst (pa_cons pe_non (pa_cons pe_int pa_nil))) (pe_callTy call_int1 (by rfl) B.int (by decide +kernel) (pa_cons (pe_cmpR op_eq (pe_call F1 hr1 (by rfl) D1.m D1.F.kp D1.b .nil pass0 (pa_cons (pv 0) (pa_cons pe_int pa_nil))) pe_int (nomark _)) pa_nil)) (fun _ _ => rfl)) pa_nil))))
          (pss_one (ps_expr (pe_bm PySem.F.plainAttrs_list PySem.F.slot_list_append PySem.F.type_list_append mt_append (pv 7) (pa_cons (pe_op op_add (pv 8) (pv 6)) pa_nil)))))))
      (pss_one (ps_ret (pe_callTy call_tuple_of (by rfl) B.tuple (by decide +kernel) (pa_cons (pv 7) pa_nil)))))))))), ?_⟩
    refine ⟨_, rfl, S, L, 6, rfl, hS, by decide, by decide, fun pk H1 a1 b1 hS1 s1 => ?_⟩
    have nf : fa ≠ S := hS.ne hf (fun _ z => by cases z)
    have na : a ≠ S := hS.ne hg (fun _ z => by cases z)
    have hf1 := s1 _ _ hf nf
    have hg1 : GridAt H1 a g := s1 _ _ hg na
    have lm : (fs.map ofO).length = g.n := by
      rw [List.length_map]
      exact hfl
    -- turned
    refine ⟨_, rfl, _, _, rfl, rfl, _, rfl, ?_⟩
    by_cases c1 : pk < 3
    · rw [decide_eq_true c1]
      refine iteT ?_
      refine ⟨_, rfl, _, rfl, S, L, fa, _, rfl, hS1, hf1, simple_ofO fs, by omega, by omega, fun t ys H2 ht e2 hys hyl hS2 s2 => ?_⟩
      exact q (.ref t) H2 (.tup e2 hys (by omega)) hS2 (s1.trans s2)
    rw [decide_eq_false c1]
    refine iteF ?_
    -- another field
    refine ⟨_, rfl, rfl, _, rfl, ?_⟩
    by_cases c2 : pk = 3
    · subst c2
      refine iteB (by decide) ?_
      refine ⟨_, rfl, _, rfl, _, rfl, S, L, a, g, rfl, hS1, hg1, ok, fun t x H2 hx ht et hS2 s2 => ?_⟩
      refine ⟨(by show 1 ≤ sizeLine; decide), fun p hp => ?_⟩
      obtain ⟨as, hga, hal, hpt⟩ := hG
      have nga : ga ≠ S := hS.ne hga (fun _ z => by cases z)
      have hga2 := s2 _ _ (s1 _ _ hga nga) nga
      have sp : Same H2 (upd H2 p (.lst [.ref t])) := same_new hp
      have ep : (upd H2 p (.lst [.ref t])) p = some (.lst [.ref t]) := upd_same
      have hSp : StrAt (upd H2 p (.lst [.ref t])) S L := hS2.new hp
      generalize upd H2 p (.lst [.ref t]) = H3 at sp ep hSp ⊢
      refine ⟨_, rfl, 1, rfl, ga, _, rfl, SqT.of (sp _ _ hga2), not_whole (by rw [List.length_map, hal]; exact l1), fun c hc => ?_⟩
      rw [cut1]
      have sc : Same H3 (upd H3 c (.tup ((as.map V.ref).drop 1))) := same_new hc
      have ec : (upd H3 c (.tup ((as.map V.ref).drop 1))) c = some (.tup ((as.map V.ref).drop 1)) := upd_same
      have hSc : StrAt (upd H3 c (.tup ((as.map V.ref).drop 1))) S L := hSp.new hc
      generalize upd H3 c (.tup ((as.map V.ref).drop 1)) = H4 at sc ec hSc ⊢
      refine ⟨c, _, rfl, .inr (SqT.of ec), fun l hl => ?_⟩
      have sl : Same H4 (upd H4 l (.lst ((as.map V.ref).drop 1))) := same_new hl
      have el : (upd H4 l (.lst ((as.map V.ref).drop 1))) l = some (.lst ((as.map V.ref).drop 1)) := upd_same
      have hSl : StrAt (upd H4 l (.lst ((as.map V.ref).drop 1))) S L := hSc.new hl
      generalize upd H4 l (.lst ((as.map V.ref).drop 1)) = H5 at sl el hSl ⊢
      have ld : ((as.map V.ref).drop 1).length ≤ 16 := by
        rw [List.length_drop, List.length_map, hal]
        omega
      refine ⟨p, l, _, _, rfl, rfl, sl _ _ (sc _ _ ep), el, small (by show 1 + _ ≤ 1000; omega), fun m hm => ?_⟩
      have sm : Same H5 (upd H5 m (.lst ([.ref t] ++ (as.map V.ref).drop 1))) := same_new hm
      have em : (upd H5 m (.lst ([.ref t] ++ (as.map V.ref).drop 1))) m = some (.lst ((t :: as.drop 1).map V.ref)) := by
        rw [upd_same, List.map_cons, List.map_drop]
        rfl
      have hSm : StrAt (upd H5 m (.lst ([.ref t] ++ (as.map V.ref).drop 1))) S L := hSl.new hm
      generalize upd H5 m (.lst ([.ref t] ++ (as.map V.ref).drop 1)) = H6 at sm em hSm ⊢
      have s26 : Same H2 H6 := ((sp.trans sc).trans sl).trans sm
      have hsq : SeqAt H6 m (x :: ps.drop 1) := by
        refine ⟨t :: as.drop 1, .inr em, ?_, fun i y e => ?_⟩
        · rw [List.length_cons, List.length_cons, List.length_drop, List.length_drop, hal]
        · match i, e with
          | 0, e => exact ⟨t, rfl, by rw [← Option.some.inj e]; exact s26 _ _ et⟩
          | i + 1, e =>
            have e' : (ps.drop 1)[i]? = some y := e
            rw [List.getElem?_drop] at e'
            obtain ⟨b, eb, hb⟩ := hpt _ y e'
            refine ⟨b, ?_, ?_⟩
            · show (as.drop 1)[i]? = some b
              rw [List.getElem?_drop]
              exact eb
            · have nb : b ≠ S := hS.ne hb (fun _ z => by cases z)
              exact s26 _ _ (s2 _ _ (s1 _ _ hb nb) nb)
      have hg6 : GridAt H6 a g := s26 _ _ (s2 _ _ hg1 na)
      refine ⟨a, m, g, x :: ps.drop 1, rfl, hg6, ok, hsq, by rw [List.length_cons, List.length_drop]; omega, fun d F H7 hd s7 fb fr al => ?_⟩
      obtain ⟨kvs, k1, k2, k3⟩ := fb.ex
      have hS7 := Same.str s7 hSm
      have sb7 : SameBut S H H7 := (s1.trans s2).trans (Same.but (s26.trans s7))
      refine ⟨_, rfl, a, g, rfl, s7 _ _ hg6, ok, fun lc Hc hlc sC hLc => ?_⟩
      obtain ⟨as2, hl2, ra2⟩ := hLc
      refine ⟨lc, rfl, ⟨_, SqL.of hl2⟩, fun Dl hD => ?_⟩
      refine lc_list (xs := as2.map V.ref) (fun i H' => Same Hc H' ∧ H' Dl = some (.lst ((((cl g).take i).map F).map ofO))) ⟨same_new hD, upd_same⟩ (fun i H' _ z => SqL.of (z.1 _ _ hl2)) (fun i v H8 hv z => ?_) fun H8 z => ?_
      · obtain ⟨s8, e8⟩ := z
        obtain ⟨b, y, rfl, hy, hb⟩ := ra2.at_ hv
        refine ⟨rfl, yes (iteT ?_)⟩
        have kd := s8 _ _ (sC _ _ k1)
        have get := DGet.t (k := key y) kd (s8 _ _ hb)
        rw [k2] at get
        refine ⟨_, rfl, d, rfl, .inr ⟨_, .of kd⟩, _, rfl, _, get, ?_⟩
        rw [ofO_map]
        refine ⟨_, e8, ?_, same_at s8 hD, ?_⟩
        · rw [List.length_map, List.length_map, List.length_take, cl_len]
          exact Nat.lt_of_le_of_lt (Nat.min_le_right _ _) (small1000 (by omega))
        · rw [upd_same, List.take_add_one, hy, List.map_append, List.map_append]
          rfl
      · obtain ⟨s8, e8⟩ := z
        rw [List.length_map, ra2.1, List.take_length] at e8
        refine ⟨Dl, _, rfl, .inl ⟨SqL.of e8, fun t2 ht2 => ?_⟩⟩
        refine q (.ref t2) _ (.tup upd_same (simple_ofO _) ?_) ((Same.str (sC.trans s8) hS7).new ht2) ((sb7.trans (Same.but (sC.trans s8))).new ht2)
        rw [List.length_map, List.length_map, cl_len]
        omega
    rw [decide_eq_false fun z => c2 (by injection z)]
    refine iteF ?_
    -- another shape
    refine ⟨_, rfl, rfl, _, rfl, ?_⟩
    by_cases c3 : pk = 4
    · subst c3
      refine iteB (by decide) ?_
      refine ⟨_, rfl, fa, _, rfl, .inr (SqT.of hf1), fun l hl => ?_⟩
      have sl : Same H1 (upd H1 l (.lst (fs.map ofO))) := same_new hl
      have el : (upd H1 l (.lst (fs.map ofO))) l = some (.lst (fs.map ofO)) := upd_same
      have hSl : StrAt (upd H1 l (.lst (fs.map ofO))) S L := hS1.new hl
      generalize upd H1 l (.lst (fs.map ofO)) = H2 at sl el hSl ⊢
      refine ⟨_, rfl, (by show 1 ≤ sizeLine; decide), fun u hu' => ?_⟩
      have su : Same H2 (upd H2 u (.tup [.non])) := same_new hu'
      have eu : (upd H2 u (.tup [.non])) u = some (.tup [.non]) := upd_same
      have hSu : StrAt (upd H2 u (.tup [.non])) S L := hSl.new hu'
      generalize upd H2 u (.tup [.non]) = H3 at su eu hSu ⊢
      have hf3 := su _ _ (sl _ _ hf1)
      refine ⟨fa, u, _, _, rfl, rfl, SqT.of hf3, SqT.of eu, fun z => ?_, small (by show _ + 1 ≤ 1000; omega), fun z => (nomatch z), fun _ c hc => ?_⟩
      · rw [z] at lm
        simp at lm
        omega
      have sc : Same H3 (upd H3 c (.tup (fs.map ofO ++ [.non]))) := same_new hc
      have ec : (upd H3 c (.tup (fs.map ofO ++ [.non]))) c = some (.tup (fs.map ofO ++ [.non])) := upd_same
      have hSc : StrAt (upd H3 c (.tup (fs.map ofO ++ [.non]))) S L := hSu.new hc
      generalize upd H3 c (.tup (fs.map ofO ++ [.non])) = H4 at sc ec hSc ⊢
      refine ⟨_, rfl, 1, rfl, fa, _, rfl, SqT.of (sc _ _ hf3), not_whole (by omega), fun m hm => ?_⟩
      rw [cut1]
      have sm : Same H4 (upd H4 m (.tup ((fs.map ofO).drop 1))) := same_new hm
      have em : (upd H4 m (.tup ((fs.map ofO).drop 1))) m = some (.tup ((fs.map ofO).drop 1)) := upd_same
      have hSm : StrAt (upd H4 m (.tup ((fs.map ofO).drop 1))) S L := hSc.new hm
      generalize upd H4 m (.tup ((fs.map ofO).drop 1)) = H5 at sm em hSm ⊢
      refine ⟨(by show 5 ≤ sizeLine; decide), fun p hp => ?_⟩
      have sp : Same H5 (upd H5 p (.lst [.ref l, .ref c, .ref m, .non, .int 0])) := same_new hp
      have ep : (upd H5 p (.lst [.ref l, .ref c, .ref m, .non, .int 0])) p = some (.lst [.ref l, .ref c, .ref m, .non, .int 0]) := upd_same
      have hSp : StrAt (upd H5 p (.lst [.ref l, .ref c, .ref m, .non, .int 0])) S L := hSm.new hp
      have np := (hSm.fresh hp).1
      generalize upd H5 p (.lst [.ref l, .ref c, .ref m, .non, .int 0]) = H6 at sp ep hSp ⊢
      refine ⟨_, rfl, S, L, 5, rfl, hSp, by decide, by decide, fun d H7 a7 b7 hS7 s7 => ?_⟩
      have ep7 := s7 _ _ ep np
      have sb7 : SameBut S H H7 := (s1.trans (Same.but (((((sl.trans su).trans sc).trans sm).trans sp)))).trans s7
      have nl : l ≠ S := (hS1.fresh hl).1
      have el7 : H7 l = some (.lst (fs.map ofO)) := s7 _ _ (sp _ _ (sm _ _ (sc _ _ (su _ _ el)))) nl
      have nc : c ≠ S := (hSu.fresh hc).1
      have ec7 : H7 c = some (.tup (fs.map ofO ++ [.non])) := s7 _ _ (sp _ _ (sm _ _ ec)) nc
      have nm : m ≠ S := (hSc.fresh hm).1
      have em7 : H7 m = some (.tup ((fs.map ofO).drop 1)) := s7 _ _ (sp _ _ em) nm
      have done : ∀ v, Arg H7 v → Q v H7 := fun v hv => q v H7 hv hS7 sb7
      have five : d = 0 ∨ d = 1 ∨ d = 2 ∨ d = 3 ∨ d = 4 := by omega
      rcases five with rfl | rfl | rfl | rfl | rfl
      · exact ⟨p, _, _, _, rfl, rfl, SqL.of ep7, at_gen (j := 0) rfl rfl, done _ (.lst el7)⟩
      · refine ⟨p, _, _, _, rfl, rfl, SqL.of ep7, at_gen (j := 1) rfl rfl, done _ (.tup ec7 ?_ ?_)⟩
        · rw [List.all_append, simple_ofO]
          rfl
        · rw [List.length_append, lm]
          show _ + 1 ≤ 1000
          omega
      · refine ⟨p, _, _, _, rfl, rfl, SqL.of ep7, at_gen (j := 2) rfl rfl, done _ (.tup em7 ?_ ?_)⟩
        · rw [← List.map_drop]
          exact simple_ofO _
        · rw [List.length_drop]
          omega
      · exact ⟨p, _, _, _, rfl, rfl, SqL.of ep7, at_gen (j := 3) rfl rfl, done _ .non⟩
      · exact ⟨p, _, _, _, rfl, rfl, SqL.of ep7, at_gen (j := 4) rfl rfl, done _ (.int 0)⟩
    rw [decide_eq_false fun z => c3 (by injection z)]
    refine iteF ?_
    -- all raised
    refine ⟨_, rfl, S, L, 3, rfl, hS1, by decide, by decide, fun dr H2 a2 b2 hS2 s2 => ⟨_, _, rfl, rfl, ?_⟩⟩
    have hf2 := s2 _ _ hf1 nf
    refine ⟨Nat.zero_le _, fun l hl => ?_⟩
    have nl := hS2.fresh hl
    have sl : Same H2 (upd H2 l (.lst [])) := same_new hl
    have el : (upd H2 l (.lst [])) l = some (.lst []) := upd_same
    have hSl : StrAt (upd H2 l (.lst [])) S L := hS2.new hl
    have hlH : H l = none := (s1.trans s2).free hS2 hl
    have sb3 : SameBut S H (upd H2 l (.lst [])) := (s1.trans s2).trans (Same.but sl)
    generalize upd H2 l (.lst []) = H3 at sl el hSl sb3 ⊢
    refine ⟨_, rfl, fa, rfl, ⟨_, SqT.of (sl _ _ hf2)⟩, ?_⟩
    refine for_tup (xs := fs.map ofO) (fun i σ H' => ∃ d8, σ = [some (.ref S), some (.ref a), some (.ref ga), some (.ref fa), some (.int pk), none, some (.int (1 + dr)), some (.ref l), d8, none] ∧ SameBut S H H' ∧ StrAt H' S L ∧ ∃ ys, H' l = some (.lst ys) ∧ ys.all simple = true ∧ ys.length = i)
      ⟨none, rfl, sb3, hSl, [], el, rfl, rfl⟩ (fun i σ H' _ z => ?_) (fun i x σ H4 hx z => ?_) fun σ H4 z => ?_
    · obtain ⟨_, _, sb, _⟩ := z
      exact SqT.of (sb _ _ hf nf)
    · obtain ⟨d8, rfl, sb4, hS4, ys, hy, hys, hyl⟩ := z
      have hi : i < g.n := by
        have := (List.getElem?_eq_some_iff.mp hx).1
        omega
      obtain ⟨o, ex⟩ : ∃ o, x = ofO o := by
        rw [List.getElem?_map] at hx
        obtain ⟨o, _, e⟩ := Option.map_eq_some_iff.mp hx
        exact ⟨o, e.symm⟩
      subst ex
      have fin : ∀ (v : V) (H5 : Hp), simple v = true → H5 l = some (.lst ys) → SameBut S H H5 → StrAt H5 S L → SameBut S H (upd H5 l (.lst (ys ++ [v]))) ∧ StrAt (upd H5 l (.lst (ys ++ [v]))) S L ∧
          ∃ us, (upd H5 l (.lst (ys ++ [v]))) l = some (.lst us) ∧ us.all simple = true ∧ us.length = i + 1 := by
        intro v H5 hv h5 sb5 hS5
        refine ⟨fun b o e n => ?_, hS5.wr nl, _, upd_same, ?_, ?_⟩
        · rw [upd_ne (ne_of_none e hlH)]
          exact sb5 b o e n
        · rw [List.all_append, hys, List.all_cons, hv]
          rfl
        · rw [List.length_append, hyl]
          rfl
      have lty : ys.length < sizeLine := small1000 (by omega)
      cases o with
      | none =>
        refine ⟨_, rfl, rfl, _, rfl, iteT ?_⟩
        refine ⟨_, rfl, .inl ⟨rfl, _, SqL.of hy⟩, ?_⟩
        refine ⟨(by show 2 ≤ sizeLine; decide), fun p hp => ?_⟩
        have sp : Same H4 (upd H4 p (.lst [.non, .int 5])) := same_new hp
        have ep : (upd H4 p (.lst [.non, .int 5])) p = some (.lst [.non, .int 5]) := upd_same
        have hSp : StrAt (upd H4 p (.lst [.non, .int 5])) S L := hS4.new hp
        have np := (hS4.fresh hp).1
        generalize upd H4 p (.lst [.non, .int 5]) = H5 at sp ep hSp ⊢
        refine ⟨_, rfl, S, L, 4, rfl, hSp, by decide, by decide, fun d H6 a6 b6 hS6 s6 => ?_⟩
        refine ⟨rfl, .inr ⟨_, rfl, ?_⟩⟩
        have ep6 := s6 _ _ ep np
        have hy6 := s6 _ _ (sp _ _ hy) nl.1
        have sb6 := (sb4.trans (Same.but sp)).trans s6
        cases decide (V.int d = V.int 0) with
        | true =>
          refine ⟨p, _, _, _, rfl, rfl, SqL.of ep6, at_gen (j := 1) rfl rfl, l, _, _, rfl, rfl, hy6, lty, ?_⟩
          exact ⟨_, rfl, fin (.int 5) H6 rfl hy6 sb6 hS6⟩
        | false =>
          refine ⟨p, _, _, _, rfl, rfl, SqL.of ep6, at_gen (j := 0) rfl rfl, l, _, _, rfl, rfl, hy6, lty, ?_⟩
          exact ⟨_, rfl, fin .non H6 rfl hy6 sb6 hS6⟩
      | some k =>
        refine ⟨_, rfl, rfl, _, rfl, iteF ?_⟩
        refine ⟨_, rfl, .inl ⟨rfl, _, SqL.of hy⟩, _, rfl, _, rfl, _, _, rfl, rfl, l, _, _, rfl, rfl, hy, lty, ?_⟩
        exact ⟨_, rfl, fin (.int (k + (1 + dr))) H4 rfl hy sb4 hS4⟩
    · obtain ⟨d8, rfl, sb4, hS4, ys, hy, hys, hyl⟩ := z
      refine ⟨_, rfl, l, _, rfl, .inl ⟨SqL.of hy, fun t ht => ?_⟩⟩
      exact q (.ref t) _ (.tup upd_same hys (by omega)) (hS4.new ht) (sb4.new ht)
end
end Kf
namespace Kf
open PySem L2
section
variable {Pr : Program} {w : World} {K : PySem.W.Frag} {mg : Str → Option Value} {base : Heap}
/-! ### law -/
def spLaw (K : PySem.W.Frag) : Sp := fun vs H Q _ => ∃ (a : Addr) (ns : List Int), vs = [.ref a] ∧ SqL K H a (ns.map V.int) ∧ ∀ H', Q (.bl true) H'
abbrev nLaw : List Str := ["_law_script", "_law_stream_here", "_law_grid_here", "_law_goals", "_law_far", "_law_field", "_law_other_here", "_law_told", "_law_k", "_law_cell"]
theorem scLaw : FnScope nLaw ["_law_script"] (defScope sLaw) := ⟨rfl, rfl, rfl, by decide +kernel, rfl, by decide +kernel, by decide +kernel⟩
theorem snoc_in {g : Gd} {ps : List P} {x : P} (h : ∀ y ∈ ps, inG g y) (hx : inG g x) : ∀ y ∈ ps ++ [x], inG g y := fun y hy => by
  rcases List.mem_append.mp hy with z | z
  · exact h y z
  · rw [List.mem_singleton.mp z]
    exact hx
theorem good_tup {H : Hp} {g : Gd} {ps : List P} {F : Fn} (ok : g.Ok) (hf : Far g ps F) (ha : All g ps F) (v : V) : GoodV H g ps v ↔ ∃ a', v = .ref a' ∧ H a' = some (.tup (((cl g).map F).map ofO)) := by
  constructor
  · rintro ⟨a, fs, e, h1, h2⟩
    rw [(good_iff ok hf ha fs).mp h2] at h1
    exact ⟨a, e, h1⟩
  · rintro ⟨a, e, h1⟩
    exact ⟨a, _, e, h1, (good_iff ok hf ha _).mpr rfl⟩
theorem ok_law {f f1 f2 f3 f4 f5 f6 f7 f8 f9 : Addr} {fd fd1 fd2 fd3 fd4 fd5 fd6 fd7 fd8 fd9 : FuncData} (D : Df K mg "law" "law" "law" sLaw ["_law_script"] f fd) (B : Bi mg)
    (D1 : Df K mg "_law_stream" "_law_stream" "_law_stream" sStream ["_law_script"] f1 fd1) (F1 : FnOk Pr w K mg base CX0 1 f1 fd1 ["_law_script"] (spSt K))
    (D2 : Df K mg "_law_grid" "_law_grid" "_law_grid" sLawGrid ["_law_stream_here", "_law_far"] f2 fd2) (F2 : FnOk Pr w K mg base CX0 2 f2 fd2 ["_law_stream_here", "_law_far"] spLg)
    (D3 : Df K mg "_law_next" "_law_next" "_law_next" sNext ["_law_stream_here", "_law_many"] f3 fd3) (F3 : FnOk Pr w K mg base CX0 1 f3 fd3 ["_law_stream_here", "_law_many"] spNx)
    (D4 : Df K mg "_law_place" "_law_place" "_law_place" sPlace ["_law_stream_here", "_law_grid_here"] f4 fd4) (F4 : FnOk Pr w K mg base CX0 2 f4 fd4 ["_law_stream_here", "_law_grid_here"] spPl)
    (D5 : Df K mg "_law_distances" "_law_distances" "_law_distances" sDist ["_law_grid_here", "_law_goals"] f5 fd5) (F5 : FnOk Pr w K mg base CX0 3 f5 fd5 ["_law_grid_here", "_law_goals"] spDi)
    (D6 : Df K mg "_law_cells" "_law_cells" "_law_cells" sCells ["_law_grid_here"] f6 fd6) (F6 : FnOk Pr w K mg base CX0 1 f6 fd6 ["_law_grid_here"] spCe)
    (D7 : Df K mg "is_field" "is_field" "is_field" sIsField ["grid", "goals", "field"] f7 fd7) (F7 : FnOk Pr w K mg base CX0 7 f7 fd7 ["grid", "goals", "field"] spFie)
    (D8 : Df K mg "_law_other" "_law_other" "_law_other" sOther pOt f8 fd8) (F8 : FnOk Pr w K mg base CX0 4 f8 fd8 pOt spOt)
    (D9 : Df K mg "_law_equal" "_law_equal" "_law_equal" sEqual pEq f9 fd9) (F9 : FnOk Pr w K mg base CX0 3 f9 fd9 pEq spE1) : FnOk Pr w K mg base CX0 8 f fd ["_law_script"] (spLaw K) := by
  refine D.F.ok scLaw (fun vs H Q E h => ?_) (fun cdv A outer s H vs Q E hr h => ?_)
  · obtain ⟨a, ns, rfl, _⟩ := h
    rfl
  · obtain ⟨sa, ns, rfl, hsa, q⟩ := h
    have hu := hu_of hr
    have hr1 := hr.mono (by decide : 1 ≤ 7)
    have hr2 := hr.mono (by decide : 2 ≤ 7)
    have hr3 := hr.mono (by decide : 3 ≤ 7)
    have hr4 := hr.mono (by decide : 4 ≤ 7)
    refine ⟨_, pss_cons (ps_set (i := 1) scLaw.nd rfl (.inr rfl) (pe_call F1 hr1 (by rfl) D1.m D1.F.kp D1.b .nil pass0 (pa_cons (pv 0) pa_nil)))
      (pss_cons (ps_set (i := 2) scLaw.nd rfl (.inr rfl) (pe_call F2 hr2 (by rfl) D2.m D2.F.kp D2.b .nil pass0 (pa_cons (pv 1) (pa_cons pe_int pa_nil))))
      (pss_cons (ps_set (i := 3) scLaw.nd rfl (.inl rfl) (pe_callTy call_tuple_of (by rfl) B.tuple (by decide +kernel) (pa_cons
        (pe_lc (own := [("_law_k", 8)]) (g := gName 8) (tt := tYes) rfl scLaw.nd (pi_range1 (by rfl) B.range (pa_cons (pe_op op_add pe_int (pe_call F3 hr1 (by rfl) D3.m D3.F.kp D3.b .nil pass0 (pa_cons (pv 1) (pa_cons pe_int pa_nil)))) pa_nil))
          (blkOk_by (own := [("_law_k", 8)]) (N := nLaw) (sc := defScope sLaw) (by decide +kernel)) (fun _ _ _ _ _ => pg_name (i := 8) scLaw.nd rfl (Or.inl rfl)) (fun _ _ _ _ _ => pts_nil)
          (fun _ _ _ _ _ => pe_call F4 hr2 (by rfl) D4.m D4.F.kp D4.b .nil pass0 (pa_cons (pv 1) (pa_cons (pv 2) pa_nil)))) pa_nil)))
      (pss_cons (ps_set (i := 4) scLaw.nd rfl (.inr rfl) (pe_call F5 hr3 (by rfl) D5.m D5.F.kp D5.b .nil pass0 (pa_cons (pv 2) (pa_cons (pv 3) pa_nil))))
      (pss_cons (ps_set (i := 5) scLaw.nd rfl (.inl rfl) (pe_callTy call_tuple_of (by rfl) B.tuple (by decide +kernel) (pa_cons
        (pe_lc (own := [("_law_cell", 9)]) (g := gName 9) (tt := tYes) rfl scLaw.nd (pi_list (pe_call F6 hr1 (by rfl) D6.m D6.F.kp D6.b .nil pass0 (pa_cons (pv 2) pa_nil))) (blkOk_by (own := [("_law_cell", 9)]) (N := nLaw) (sc := defScope sLaw) (by decide +kernel))
          (fun _ _ _ _ _ => pg_name (i := 9) scLaw.nd rfl (Or.inl rfl)) (fun _ _ _ _ _ => pts_nil) (fun _ _ _ _ _ => pe_dget1 hu (pv 4) (pv 9) ⟨by rfl, by rfl, by rfl, by rfl⟩)) pa_nil)))
      (pss_cons (ps_if (pt_cmpR op_notBl (pe_call F7 hr (by rfl) D7.m D7.F.kp D7.b .nil pass0 (pa_cons (pv 2) (pa_cons (pv 3) (pa_cons (pv 5) pa_nil)))) pe_bl (nomark _)) (pss_one (ps_ret pe_bl)) pss_nil)
      (pss_cons (ps_set (i := 6) scLaw.nd rfl (.inl rfl) (pe_call F8 hr4 (by rfl) D8.m D8.F.kp D8.b .nil pass0 (pa_cons (pv 1) (pa_cons (pv 2) (pa_cons (pv 3) (pa_cons (pv 5) pa_nil))))))
      (pss_cons (ps_set (i := 7) scLaw.nd rfl (.inl rfl) (pe_call F7 hr (by rfl) D7.m D7.F.kp D7.b .nil pass0 (pa_cons (pv 2) (pa_cons (pv 3) (pa_cons (pv 6) pa_nil)))))
      (pss_one (ps_ret (pe_and (pe_isT "bool" B.isi B.bool (pv 7)) (pe_one (pe_cmpR op_eq (pv 7) (pe_call F9 hr3 (by rfl) D9.m D9.F.kp D9.b .nil pass0 (pa_cons (pv 6) (pa_cons (pv 5) pa_nil))) (nomark _))))))))))))), ?_⟩
    -- the stream, the grid
    refine ⟨_, rfl, sa, ns, rfl, hsa, fun S L H1 hS0 s1 hS1 => ?_⟩
    refine ⟨_, rfl, S, L, rfl, hS1, fun a g H2 ok ha hg hS2 s2 => ?_⟩
    have n36 := ok.n36
    have na : a ≠ S := hS2.ne hg (fun _ z => by cases z)
    -- the goals
    refine ⟨_, rfl, S, L, 4, rfl, hS2, by decide, by decide, fun d H3 a3 b3 hS3 s3 => ⟨_, _, rfl, rfl, 1 + d, rfl, by omega, by omega, fun Dl hD => ?_⟩⟩
    have nD := hS3.fresh hD
    have hg3 : GridAt H3 a g := s3 _ _ hg na
    refine lc_range (lo := 0) (n := (1 + d).toNat) (fun i H' => SameBut S H3 H' ∧ StrAt H' S L ∧ ∃ (as : List Addr) (ps : List P), H' Dl = some (.lst (as.map V.ref)) ∧ RefsAt H' as ps ∧ ps.length = i ∧ ∀ x ∈ ps, inG g x)
      ⟨(SameBut.refl S H3).new hD, hS3.new hD, [], [], upd_same, ⟨rfl, fun i x e => by cases e⟩, rfl, fun x hx => by cases hx⟩ (fun i H4 hi z => ?_) fun H4 z => ?_
    · obtain ⟨s4, hS4, as, ps, ed, ra, el, hin⟩ := z
      refine ⟨rfl, yes (iteT ?_)⟩
      refine ⟨_, rfl, _, rfl, S, L, a, g, rfl, hS4, s4 _ _ hg3 na, ok, fun t x H5 hx ht et hS5 s5 => ?_⟩
      have e5 := s5 _ _ ed nD.1
      refine ⟨_, e5, small1000 (by rw [List.length_map, ra.1]; omega), fun b o e n => ?_, hS5.wr nD, as ++ [t], ps ++ [x], ?_, ?_, by rw [List.length_append, el]; rfl, snoc_in hin hx⟩
      · rw [upd_ne (ne_of_none e hD)]
        exact (s4.trans s5) b o e n
      · rw [upd_same, List.map_append]
        rfl
      · refine (RefsAt.snoc (ra.keep fun b y e => s5 _ _ e (hS4.ne e (fun _ z => by cases z))) et).keep fun b y e => ?_
        rw [upd_ne (ne_of e e5 (by intro z; cases z))]
        exact e
    obtain ⟨s4, hS4, as, ps, ed, ra, el, hin⟩ := z
    have hg4 : GridAt H4 a g := s4 _ _ hg3 na
    refine ⟨Dl, _, rfl, .inl ⟨SqL.of ed, fun ga hga => ?_⟩⟩
    have sg : Same H4 (upd H4 ga (.tup (as.map V.ref))) := same_new hga
    have eg : (upd H4 ga (.tup (as.map V.ref))) ga = some (.tup (as.map V.ref)) := upd_same
    generalize upd H4 ga (.tup (as.map V.ref)) = H5 at sg eg ⊢
    have ra5 : RefsAt H5 as ps := ra.keep fun b y e => sg _ _ e
    have hg5 : GridAt H5 a g := sg _ _ hg4
    have hS5 := Same.str sg hS4
    have hG5 : GoalsAt H5 ga ps := ⟨as, eg, ra5.1, ra5.2⟩
    have l1 : 1 ≤ ps.length := by omega
    have l16 : ps.length ≤ 16 := by omega
    -- the distances
    refine ⟨_, rfl, _, rfl, a, ga, g, ps, rfl, hg5, ok, ⟨as, .inl eg, ra5⟩, l16, fun dd F H6 hd s6 fb fr al => ?_⟩
    obtain ⟨kvs, k1, k2, k3⟩ := fb.ex
    have hg6 : GridAt H6 a g := s6 _ _ hg5
    -- the field
    refine ⟨_, rfl, a, g, rfl, hg6, ok, fun lc Hc hlc sC hLc => ?_⟩
    obtain ⟨as2, hl2, ra2⟩ := hLc
    refine ⟨lc, rfl, ⟨_, SqL.of hl2⟩, fun D2l hD2 => ?_⟩
    refine lc_list (xs := as2.map V.ref) (fun i H' => Same Hc H' ∧ H' D2l = some (.lst ((((cl g).take i).map F).map ofO))) ⟨same_new hD2, upd_same⟩ (fun i H' _ z => SqL.of (z.1 _ _ hl2)) (fun i v H8 hv z => ?_) fun H8 z => ?_
    · obtain ⟨s8, e8⟩ := z
      obtain ⟨b, y, rfl, hy, hb⟩ := ra2.at_ hv
      refine ⟨rfl, yes (iteT ?_)⟩
      have kd := s8 _ _ (sC _ _ k1)
      have get := DGet.t (k := key y) kd (s8 _ _ hb)
      rw [k2] at get
      refine ⟨_, rfl, dd, rfl, .inr ⟨_, .of kd⟩, _, rfl, _, get, ?_⟩
      rw [ofO_map]
      refine ⟨_, e8, ?_, same_at s8 hD2, ?_⟩
      · rw [List.length_map, List.length_map, List.length_take, cl_len]
        exact Nat.lt_of_le_of_lt (Nat.min_le_right _ _) (small1000 (by omega))
      · rw [upd_same, List.take_add_one, hy, List.map_append, List.map_append]
        rfl
    obtain ⟨s8, e8⟩ := z
    rw [List.length_map, ra2.1, List.take_length] at e8
    refine ⟨D2l, _, rfl, .inl ⟨SqL.of e8, fun fa hfa => ?_⟩⟩
    have sf : Same H8 (upd H8 fa (.tup (((cl g).map F).map ofO))) := same_new hfa
    have ef : (upd H8 fa (.tup (((cl g).map F).map ofO))) fa = some (.tup (((cl g).map F).map ofO)) := upd_same
    generalize upd H8 fa (.tup (((cl g).map F).map ofO)) = H9 at sf ef ⊢
    have s59 : Same H5 H9 := ((s6.trans sC).trans s8).trans sf
    have lfs : ((cl g).map F).length = g.n := by rw [List.length_map, cl_len]
    have argF : Arg H9 (.ref fa) := .tup ef (simple_ofO _) (by rw [List.length_map, lfs]; omega)
    -- is_field of the field itself
    refine ⟨_, rfl, _, rfl, _, rfl, a, ga, g, ps, .ref fa, rfl, s59 _ _ hg5, ok, Same.goals s59 hG5, l1, l16, hin, argF, fun b1 H10 hb1 s10 => ?_⟩
    have eb1 : b1 = true := hb1.mpr ((good_tup ok fr al _).mpr ⟨fa, rfl, ef⟩)
    subst eb1
    refine ⟨true, true, rfl, rfl, _, rfl, iteNS rfl ?_⟩
    -- the other value
    have s5x := s59.trans s10
    have ef10 := s10 _ _ ef
    refine ⟨_, rfl, _, rfl, _, rfl, _, rfl, S, L, a, ga, fa, g, ps, _, rfl, Same.str s5x hS5, s5x _ _ hg5, ok, Same.goals s5x hG5, l1, l16, ef10, lfs, fun v H11 hv hS11 s11 => ?_⟩
    have hg11 : GridAt H11 a g := s11 _ _ (s5x _ _ hg5) na
    have nSt := Same.str s5x hS5
    have hG11 : GoalsAt H11 ga ps := by
      obtain ⟨as', g1, g2, g3⟩ := Same.goals s5x hG5
      refine ⟨as', s11 _ _ g1 (nSt.ne g1 (fun _ z => by cases z)), g2, fun i x e => ?_⟩
      obtain ⟨b, eb, hb⟩ := g3 i x e
      exact ⟨b, eb, s11 _ _ hb (nSt.ne hb (fun _ z => by cases z))⟩
    have ef11 := s11 _ _ ef10 (nSt.ne ef10 (fun _ z => by cases z))
    refine ⟨_, rfl, _, rfl, _, rfl, a, ga, g, ps, v, rfl, hg11, ok, hG11, l1, l16, hin, hv, fun b2 H12 hb2 s12 => ?_⟩
    -- told and equal agree
    refine ⟨_, rfl, _, _, _, _, rfl, .base (.bl _), kBB, true, rfl, iteT ?_⟩
    have hv12 := Same.arg s12 hv
    refine ⟨_, rfl, _, rfl, _, rfl, v, fa, _, rfl, hv12, s12 _ _ ef11, by omega, fun b3 H13 hb3 s13 => ?_⟩
    have e23 : b2 = b3 := by
      have i1 : b2 = true ↔ b3 = true := hb2.trans ((⟨GoodV.same s12, GoodV.back s12 hv⟩ : GoodV H11 g ps v ↔ GoodV H12 g ps v).trans ((good_tup ok fr al v).trans hb3.symm))
      cases b2 with
      | true => exact (i1.mp rfl).symm
      | false =>
        cases b3 with
        | true => exact i1.mpr rfl
        | false => rfl
    subst e23
    refine ⟨rfl, ?_⟩
    rw [decide_eq_true rfl]
    exact q H13
end
end Kf
namespace Kf
open PySem L2
/-! ### what the top has left, and the law's own head -/
theorem all_mk {l : PySem.W.OpenLaw} {w : World} {K : PySem.W.Frag} {h : Heap} {mg : Str → Option Value} {fa : Addr} (X : K.In h) (G : h.Ns mainGlobals mg) (hfa : mg "law" = some (.ref fa))
    {C S0 S1 S2 S3 S4 f_wh f_gr f_cg f_wo f_bt f_ini f_cel f_idx f_isc f_cos f_bes f_go f_du f_pas f_fie f_st f_nx f_ii f_eq f_lg f_ce f_lc f_lb f_di f_pl f_tu f_ot f_law : Addr}
    {od_wh an_wh od_gr an_gr od_cg an_cg od_wo an_wo od_bt an_bt od_ini an_ini od_cel an_cel od_idx an_idx od_isc an_isc od_cos an_cos od_bes an_bes od_go an_go od_du an_du od_pas an_pas od_fie an_fie od_st an_st od_nx an_nx od_ii an_ii od_eq an_eq od_lg an_lg od_ce an_ce od_lc an_lc od_lb an_lb od_di an_di od_pl an_pl od_tu an_tu od_ot an_ot od_law an_law e0 e1 e2 e3 e4 : Option Addr}
    {sl_wh sl_gr sl_cg sl_wo sl_bt sl_ini sl_cel sl_idx sl_isc sl_cos sl_bes sl_go sl_du sl_pas sl_fie sl_st sl_nx sl_ii sl_eq sl_lg sl_ce sl_lc sl_lb sl_di sl_pl sl_tu sl_ot sl_law x0 x1 x2 x3 x4 : Array (Option Value)}
    {oc_wh kV_wh dc_wh pm_wh cd_wh ct_wh oc_gr kV_gr dc_gr pm_gr cd_gr ct_gr oc_cg kV_cg dc_cg pm_cg cd_cg ct_cg oc_wo kV_wo dc_wo pm_wo cd_wo ct_wo oc_bt kV_bt dc_bt pm_bt cd_bt ct_bt oc_ini kV_ini dc_ini pm_ini cd_ini ct_ini oc_cel kV_cel dc_cel pm_cel cd_cel ct_cel oc_idx kV_idx dc_idx pm_idx cd_idx ct_idx oc_isc kV_isc dc_isc pm_isc cd_isc ct_isc oc_cos kV_cos dc_cos pm_cos cd_cos ct_cos oc_bes kV_bes dc_bes pm_bes cd_bes ct_bes oc_go kV_go dc_go pm_go cd_go ct_go oc_du kV_du dc_du pm_du cd_du ct_du oc_pas kV_pas dc_pas pm_pas cd_pas ct_pas oc_fie kV_fie dc_fie pm_fie cd_fie ct_fie oc_st kV_st dc_st pm_st cd_st ct_st oc_nx kV_nx dc_nx pm_nx cd_nx ct_nx oc_ii kV_ii dc_ii pm_ii cd_ii ct_ii oc_eq kV_eq dc_eq pm_eq cd_eq ct_eq oc_lg kV_lg dc_lg pm_lg cd_lg ct_lg oc_ce kV_ce dc_ce pm_ce cd_ce ct_ce oc_lc kV_lc dc_lc pm_lc cd_lc ct_lc oc_lb kV_lb dc_lb pm_lb cd_lb ct_lb oc_di kV_di dc_di pm_di cd_di ct_di oc_pl kV_pl dc_pl pm_pl cd_pl ct_pl oc_tu kV_tu dc_tu pm_tu cd_tu ct_tu oc_ot kV_ot dc_ot pm_ot cd_ot ct_ot oc_law kV_law dc_law pm_law cd_law ct_law : Value}
    {t1 t2 t3 t4 u1 u2 u3 u4 v1 v2 v3 v4 : Tok} {m0 m1 m2 m3 m4 : Nat}
    (aC : PySem.W.nsIn K mainGlobals "Cells" = some (some (.ref C)))
    (a_wh : PySem.W.nsIn K mainGlobals "is_whole_grids" = some (some (.ref f_wh)))
    (l_wh : K.lookup f_wh = some ⟨oc_wh, od_wh, .func (PySem.W.fnOf "is_whole" "is_whole" (defArgs sWhole3) (defBody sWhole3) (defScope sWhole3) .none kV_wh dc_wh pm_wh an_wh cd_wh ct_wh), sl_wh⟩)
    (c_wh : PySem.W.codeIn K cd_wh "is_whole" = true)
    (k_wh : PySem.W.keepIn K (.ref f_wh) = true)
    (a_gr : PySem.W.nsIn K mainGlobals "is_grid" = some (some (.ref f_gr)))
    (l_gr : K.lookup f_gr = some ⟨oc_gr, od_gr, .func (PySem.W.fnOf "is_grid" "is_grid" (defArgs sGrid) (defBody sGrid) (defScope sGrid) .none kV_gr dc_gr pm_gr an_gr cd_gr ct_gr), sl_gr⟩)
    (c_gr : PySem.W.codeIn K cd_gr "is_grid" = true)
    (k_gr : PySem.W.keepIn K (.ref f_gr) = true)
    (a_cg : PySem.W.nsIn K mainGlobals "check_grid" = some (some (.ref f_cg)))
    (l_cg : K.lookup f_cg = some ⟨oc_cg, od_cg, .func (PySem.W.fnOf "check_grid" "check_grid" (defArgs sCheckGrid) (defBody sCheckGrid) (defScope sCheckGrid) .none kV_cg dc_cg pm_cg an_cg cd_cg ct_cg), sl_cg⟩)
    (c_cg : PySem.W.codeIn K cd_cg "check_grid" = true)
    (k_cg : PySem.W.keepIn K (.ref f_cg) = true)
    (a_wo : PySem.W.nsIn K mainGlobals "is_whole_whole" = some (some (.ref f_wo)))
    (l_wo : K.lookup f_wo = some ⟨oc_wo, od_wo, .func (PySem.W.fnOf "is_whole" "is_whole" (defArgs sWhole1) (defBody sWhole1) (defScope sWhole1) .none kV_wo dc_wo pm_wo an_wo cd_wo ct_wo), sl_wo⟩)
    (c_wo : PySem.W.codeIn K cd_wo "is_whole" = true)
    (k_wo : PySem.W.keepIn K (.ref f_wo) = true)
    (a_bt : PySem.W.nsIn K mainGlobals "is_between" = some (some (.ref f_bt)))
    (l_bt : K.lookup f_bt = some ⟨oc_bt, od_bt, .func (PySem.W.fnOf "is_between" "is_between" (defArgs sBetween) (defBody sBetween) (defScope sBetween) .none kV_bt dc_bt pm_bt an_bt cd_bt ct_bt), sl_bt⟩)
    (c_bt : PySem.W.codeIn K cd_bt "is_between" = true)
    (k_bt : PySem.W.keepIn K (.ref f_bt) = true)
    (a_ini : PySem.W.findIn K (.ref C) "__init__" = some (some (.ref f_ini)))
    (i_ini : PySem.W.isFn K (.ref f_ini) = true)
    (l_ini : K.lookup f_ini = some ⟨oc_ini, od_ini, .func (PySem.W.fnOf "__init__" "Cells.__init__" (defArgs sInit) (defBody sInit) (defScope sInit) .none kV_ini dc_ini pm_ini an_ini cd_ini ct_ini), sl_ini⟩)
    (c_ini : PySem.W.codeIn K cd_ini "Cells.__init__" = true)
    (k_ini : PySem.W.keepIn K (.ref f_ini) = true)
    (a_cel : PySem.W.findIn K (.ref C) "cell" = some (some (.ref f_cel)))
    (i_cel : PySem.W.isFn K (.ref f_cel) = true)
    (l_cel : K.lookup f_cel = some ⟨oc_cel, od_cel, .func (PySem.W.fnOf "cell" "Cells.cell" (defArgs sCell) (defBody sCell) (defScope sCell) .none kV_cel dc_cel pm_cel an_cel cd_cel ct_cel), sl_cel⟩)
    (c_cel : PySem.W.codeIn K cd_cel "Cells.cell" = true)
    (k_cel : PySem.W.keepIn K (.ref f_cel) = true)
    (a_idx : PySem.W.findIn K (.ref C) "index" = some (some (.ref f_idx)))
    (i_idx : PySem.W.isFn K (.ref f_idx) = true)
    (l_idx : K.lookup f_idx = some ⟨oc_idx, od_idx, .func (PySem.W.fnOf "index" "Cells.index" (defArgs sIndex) (defBody sIndex) (defScope sIndex) .none kV_idx dc_idx pm_idx an_idx cd_idx ct_idx), sl_idx⟩)
    (c_idx : PySem.W.codeIn K cd_idx "Cells.index" = true)
    (k_idx : PySem.W.keepIn K (.ref f_idx) = true)
    (a_isc : PySem.W.findIn K (.ref C) "is_cell" = some (some (.ref f_isc)))
    (i_isc : PySem.W.isFn K (.ref f_isc) = true)
    (l_isc : K.lookup f_isc = some ⟨oc_isc, od_isc, .func (PySem.W.fnOf "is_cell" "Cells.is_cell" (defArgs sIsCell) (defBody sIsCell) (defScope sIsCell) .none kV_isc dc_isc pm_isc an_isc cd_isc ct_isc), sl_isc⟩)
    (c_isc : PySem.W.codeIn K cd_isc "Cells.is_cell" = true)
    (k_isc : PySem.W.keepIn K (.ref f_isc) = true)
    (a_cos : PySem.W.findIn K (.ref C) "cost" = some (some (.ref f_cos)))
    (i_cos : PySem.W.isFn K (.ref f_cos) = true)
    (l_cos : K.lookup f_cos = some ⟨oc_cos, od_cos, .func (PySem.W.fnOf "cost" "Cells.cost" (defArgs sCost) (defBody sCost) (defScope sCost) .none kV_cos dc_cos pm_cos an_cos cd_cos ct_cos), sl_cos⟩)
    (c_cos : PySem.W.codeIn K cd_cos "Cells.cost" = true)
    (k_cos : PySem.W.keepIn K (.ref f_cos) = true)
    (a_bes : PySem.W.findIn K (.ref C) "beside" = some (some (.ref f_bes)))
    (i_bes : PySem.W.isFn K (.ref f_bes) = true)
    (l_bes : K.lookup f_bes = some ⟨oc_bes, od_bes, .func (PySem.W.fnOf "beside" "Cells.beside" (defArgs sBeside) (defBody sBeside) (defScope sBeside) .none kV_bes dc_bes pm_bes an_bes cd_bes ct_bes), sl_bes⟩)
    (c_bes : PySem.W.codeIn K cd_bes "Cells.beside" = true)
    (k_bes : PySem.W.keepIn K (.ref f_bes) = true)
    (a_go : PySem.W.nsIn K mainGlobals "check_goals" = some (some (.ref f_go)))
    (l_go : K.lookup f_go = some ⟨oc_go, od_go, .func (PySem.W.fnOf "check_goals" "check_goals" (defArgs sCheckGoals) (defBody sCheckGoals) (defScope sCheckGoals) .none kV_go dc_go pm_go an_go cd_go ct_go), sl_go⟩)
    (c_go : PySem.W.codeIn K cd_go "check_goals" = true)
    (k_go : PySem.W.keepIn K (.ref f_go) = true)
    (a_du : PySem.W.nsIn K mainGlobals "due_at" = some (some (.ref f_du)))
    (l_du : K.lookup f_du = some ⟨oc_du, od_du, .func (PySem.W.fnOf "due_at" "due_at" (defArgs sDueAt) (defBody sDueAt) (defScope sDueAt) .none kV_du dc_du pm_du an_du cd_du ct_du), sl_du⟩)
    (c_du : PySem.W.codeIn K cd_du "due_at" = true)
    (k_du : PySem.W.keepIn K (.ref f_du) = true)
    (a_pas : PySem.W.nsIn K mainGlobals "passes" = some (some (.ref f_pas)))
    (l_pas : K.lookup f_pas = some ⟨oc_pas, od_pas, .func (PySem.W.fnOf "passes" "passes" (defArgs sPasses) (defBody sPasses) (defScope sPasses) .none kV_pas dc_pas pm_pas an_pas cd_pas ct_pas), sl_pas⟩)
    (c_pas : PySem.W.codeIn K cd_pas "passes" = true)
    (k_pas : PySem.W.keepIn K (.ref f_pas) = true)
    (a_fie : PySem.W.nsIn K mainGlobals "is_field" = some (some (.ref f_fie)))
    (l_fie : K.lookup f_fie = some ⟨oc_fie, od_fie, .func (PySem.W.fnOf "is_field" "is_field" (defArgs sIsField) (defBody sIsField) (defScope sIsField) .none kV_fie dc_fie pm_fie an_fie cd_fie ct_fie), sl_fie⟩)
    (c_fie : PySem.W.codeIn K cd_fie "is_field" = true)
    (k_fie : PySem.W.keepIn K (.ref f_fie) = true)
    (a_st : PySem.W.nsIn K mainGlobals "_law_stream" = some (some (.ref f_st)))
    (l_st : K.lookup f_st = some ⟨oc_st, od_st, .func (PySem.W.fnOf "_law_stream" "_law_stream" (defArgs sStream) (defBody sStream) (defScope sStream) .none kV_st dc_st pm_st an_st cd_st ct_st), sl_st⟩)
    (c_st : PySem.W.codeIn K cd_st "_law_stream" = true)
    (k_st : PySem.W.keepIn K (.ref f_st) = true)
    (a_nx : PySem.W.nsIn K mainGlobals "_law_next" = some (some (.ref f_nx)))
    (l_nx : K.lookup f_nx = some ⟨oc_nx, od_nx, .func (PySem.W.fnOf "_law_next" "_law_next" (defArgs sNext) (defBody sNext) (defScope sNext) .none kV_nx dc_nx pm_nx an_nx cd_nx ct_nx), sl_nx⟩)
    (c_nx : PySem.W.codeIn K cd_nx "_law_next" = true)
    (k_nx : PySem.W.keepIn K (.ref f_nx) = true)
    (a_ii : PySem.W.nsIn K mainGlobals "_law_is_integer" = some (some (.ref f_ii)))
    (l_ii : K.lookup f_ii = some ⟨oc_ii, od_ii, .func (PySem.W.fnOf "_law_is_integer" "_law_is_integer" (defArgs sIsInt) (defBody sIsInt) (defScope sIsInt) .none kV_ii dc_ii pm_ii an_ii cd_ii ct_ii), sl_ii⟩)
    (c_ii : PySem.W.codeIn K cd_ii "_law_is_integer" = true)
    (k_ii : PySem.W.keepIn K (.ref f_ii) = true)
    (a_eq : PySem.W.nsIn K mainGlobals "_law_equal" = some (some (.ref f_eq)))
    (l_eq : K.lookup f_eq = some ⟨oc_eq, od_eq, .func (PySem.W.fnOf "_law_equal" "_law_equal" (defArgs sEqual) (defBody sEqual) (defScope sEqual) .none kV_eq dc_eq pm_eq an_eq cd_eq ct_eq), sl_eq⟩)
    (c_eq : PySem.W.codeIn K cd_eq "_law_equal" = true)
    (k_eq : PySem.W.keepIn K (.ref f_eq) = true)
    (a_lg : PySem.W.nsIn K mainGlobals "_law_grid" = some (some (.ref f_lg)))
    (l_lg : K.lookup f_lg = some ⟨oc_lg, od_lg, .func (PySem.W.fnOf "_law_grid" "_law_grid" (defArgs sLawGrid) (defBody sLawGrid) (defScope sLawGrid) .none kV_lg dc_lg pm_lg an_lg cd_lg ct_lg), sl_lg⟩)
    (c_lg : PySem.W.codeIn K cd_lg "_law_grid" = true)
    (k_lg : PySem.W.keepIn K (.ref f_lg) = true)
    (a_ce : PySem.W.nsIn K mainGlobals "_law_cells" = some (some (.ref f_ce)))
    (l_ce : K.lookup f_ce = some ⟨oc_ce, od_ce, .func (PySem.W.fnOf "_law_cells" "_law_cells" (defArgs sCells) (defBody sCells) (defScope sCells) .none kV_ce dc_ce pm_ce an_ce cd_ce ct_ce), sl_ce⟩)
    (c_ce : PySem.W.codeIn K cd_ce "_law_cells" = true)
    (k_ce : PySem.W.keepIn K (.ref f_ce) = true)
    (a_lc : PySem.W.nsIn K mainGlobals "_law_cost" = some (some (.ref f_lc)))
    (l_lc : K.lookup f_lc = some ⟨oc_lc, od_lc, .func (PySem.W.fnOf "_law_cost" "_law_cost" (defArgs sLawCost) (defBody sLawCost) (defScope sLawCost) .none kV_lc dc_lc pm_lc an_lc cd_lc ct_lc), sl_lc⟩)
    (c_lc : PySem.W.codeIn K cd_lc "_law_cost" = true)
    (k_lc : PySem.W.keepIn K (.ref f_lc) = true)
    (a_lb : PySem.W.nsIn K mainGlobals "_law_beside" = some (some (.ref f_lb)))
    (l_lb : K.lookup f_lb = some ⟨oc_lb, od_lb, .func (PySem.W.fnOf "_law_beside" "_law_beside" (defArgs sLawBeside) (defBody sLawBeside) (defScope sLawBeside) .none kV_lb dc_lb pm_lb an_lb cd_lb ct_lb), sl_lb⟩)
    (c_lb : PySem.W.codeIn K cd_lb "_law_beside" = true)
    (k_lb : PySem.W.keepIn K (.ref f_lb) = true)
    (a_di : PySem.W.nsIn K mainGlobals "_law_distances" = some (some (.ref f_di)))
    (l_di : K.lookup f_di = some ⟨oc_di, od_di, .func (PySem.W.fnOf "_law_distances" "_law_distances" (defArgs sDist) (defBody sDist) (defScope sDist) .none kV_di dc_di pm_di an_di cd_di ct_di), sl_di⟩)
    (c_di : PySem.W.codeIn K cd_di "_law_distances" = true)
    (k_di : PySem.W.keepIn K (.ref f_di) = true)
    (a_pl : PySem.W.nsIn K mainGlobals "_law_place" = some (some (.ref f_pl)))
    (l_pl : K.lookup f_pl = some ⟨oc_pl, od_pl, .func (PySem.W.fnOf "_law_place" "_law_place" (defArgs sPlace) (defBody sPlace) (defScope sPlace) .none kV_pl dc_pl pm_pl an_pl cd_pl ct_pl), sl_pl⟩)
    (c_pl : PySem.W.codeIn K cd_pl "_law_place" = true)
    (k_pl : PySem.W.keepIn K (.ref f_pl) = true)
    (a_tu : PySem.W.nsIn K mainGlobals "_law_turned" = some (some (.ref f_tu)))
    (l_tu : K.lookup f_tu = some ⟨oc_tu, od_tu, .func (PySem.W.fnOf "_law_turned" "_law_turned" (defArgs sTurned) (defBody sTurned) (defScope sTurned) .none kV_tu dc_tu pm_tu an_tu cd_tu ct_tu), sl_tu⟩)
    (c_tu : PySem.W.codeIn K cd_tu "_law_turned" = true)
    (k_tu : PySem.W.keepIn K (.ref f_tu) = true)
    (a_ot : PySem.W.nsIn K mainGlobals "_law_other" = some (some (.ref f_ot)))
    (l_ot : K.lookup f_ot = some ⟨oc_ot, od_ot, .func (PySem.W.fnOf "_law_other" "_law_other" (defArgs sOther) (defBody sOther) (defScope sOther) .none kV_ot dc_ot pm_ot an_ot cd_ot ct_ot), sl_ot⟩)
    (c_ot : PySem.W.codeIn K cd_ot "_law_other" = true)
    (k_ot : PySem.W.keepIn K (.ref f_ot) = true)
    (a_law : PySem.W.nsIn K mainGlobals "law" = some (some (.ref f_law)))
    (l_law : K.lookup f_law = some ⟨oc_law, od_law, .func (PySem.W.fnOf "law" "law" (defArgs sLaw) (defBody sLaw) (defScope sLaw) .none kV_law dc_law pm_law an_law cd_law ct_law), sl_law⟩)
    (c_law : PySem.W.codeIn K cd_law "law" = true)
    (k_law : PySem.W.keepIn K (.ref f_law) = true)
    (pg : PySem.W.plainGet K C Str.empty = true)
    (hd : PySem.W.hasDictIn K C = true)
    (po : PySem.W.plainOver K C = true)
    (sa : PySem.W.findIn K (.ref C) "__setattr__" = some (some (.builtin "object.__setattr__")))
    (mk : PySem.W.makesIn K C = true)
    (kc : PySem.W.keepIn K (.ref C) = true)
    (n_columns : PySem.W.findIn K (.ref C) "columns" = some none)
    (n_rows : PySem.W.findIn K (.ref C) "rows" = some none)
    (n_signs : PySem.W.findIn K (.ref C) "signs" = some none)
    (z_isinstance : PySem.W.nsIn K mainGlobals "isinstance" = some none)
    (z_int : PySem.W.nsIn K mainGlobals "int" = some none)
    (z_bool : PySem.W.nsIn K mainGlobals "bool" = some none)
    (z_str : PySem.W.nsIn K mainGlobals "str" = some none)
    (z_tuple : PySem.W.nsIn K mainGlobals "tuple" = some none)
    (z_list : PySem.W.nsIn K mainGlobals "list" = some none)
    (z_len : PySem.W.nsIn K mainGlobals "len" = some none)
    (z_all : PySem.W.nsIn K mainGlobals "all" = some none)
    (z_range : PySem.W.nsIn K mainGlobals "range" = some none)
    (z_min : PySem.W.nsIn K mainGlobals "min" = some none)
    (z_abs : PySem.W.nsIn K mainGlobals "abs" = some none)
    (z_enumerate : PySem.W.nsIn K mainGlobals "enumerate" = some none)
    (g1 : PySem.W.nsIn K mainGlobals "SIGNS" = some (some (.str ".#^~" t1)))
    (g2 : PySem.W.nsIn K mainGlobals "MOST_CELLS" = some (some (.int 40 t2)))
    (g3 : PySem.W.nsIn K mainGlobals "MOST_GOALS" = some (some (.int 16 t3)))
    (g4 : PySem.W.nsIn K mainGlobals "SLOW" = some (some (.int 3 t4)))
    (g5 : PySem.W.nsIn K mainGlobals "STEPS" = some (some (.ref S0)))
    (s0 : K.lookup S0 = some ⟨.type "tuple", e0, .seq #[.ref S1, .ref S2, .ref S3, .ref S4] m0, x0⟩)
    (s1 : K.lookup S1 = some ⟨.type "tuple", e1, .seq #[.int 1 u1, .int 0 v1] m1, x1⟩)
    (s2 : K.lookup S2 = some ⟨.type "tuple", e2, .seq #[.int 0 u2, .int 1 v2] m2, x2⟩)
    (s3 : K.lookup S3 = some ⟨.type "tuple", e3, .seq #[.int (-1) u3, .int 0 v3] m3, x3⟩)
    (s4 : K.lookup S4 = some ⟨.type "tuple", e4, .seq #[.int 0 u4, .int (-1) v4] m4, x4⟩) :
    ∃ fd : FuncData, (∀ (s : Shared) (v : Value), BindsTo s fd ⟨[v], []⟩ [("_law_script", v)]) ∧ ∀ base : Heap, K.In base → base.Ns mainGlobals mg → FnOk l.prog w K mg base CX0 8 fa fd ["_law_script"] (spLaw K) := by
  have e := hfa.symm.trans (PySem.W.mg_of X G a_law)
  cases e
  have B : Bi mg := ⟨PySem.W.mg_none_of X G z_isinstance, PySem.W.mg_none_of X G z_int, PySem.W.mg_none_of X G z_bool, PySem.W.mg_none_of X G z_str, PySem.W.mg_none_of X G z_tuple, PySem.W.mg_none_of X G z_list, PySem.W.mg_none_of X G z_len, PySem.W.mg_none_of X G z_all, PySem.W.mg_none_of X G z_range, PySem.W.mg_none_of X G z_min, PySem.W.mg_none_of X G z_abs, PySem.W.mg_none_of X G z_enumerate⟩
  have S : Ks mg := ⟨⟨_, PySem.W.mg_of X G g1⟩, ⟨_, PySem.W.mg_of X G g2⟩, ⟨_, PySem.W.mg_of X G g3⟩, ⟨_, PySem.W.mg_of X G g4⟩⟩
  have T : Ct K mg C := ⟨⟨pg, hd, po, sa⟩, n_columns, n_rows, n_signs, PySem.W.mg_of X G aC, mk, kc⟩
  have W : Steps K mg := ⟨S0, [S1, S2, S3, S4], PySem.W.mg_of X G g5, rfl,
    fun H => .inr ⟨_, _, _, s0, rfl, rfl, (by show 4 ≤ sizeLine; decide), .cons rfl (.cons rfl (.cons rfl (.cons rfl .nil)))⟩, fun j d e => by
      match j, e with
      | 0, e => exact ⟨S1, rfl, fun H => by rw [← Option.some.inj e]; exact .inr ⟨_, _, _, s1, rfl, rfl, (by show 2 ≤ sizeLine; decide), .cons ⟨_, rfl⟩ (.cons ⟨_, rfl⟩ .nil)⟩⟩
      | 1, e => exact ⟨S2, rfl, fun H => by rw [← Option.some.inj e]; exact .inr ⟨_, _, _, s2, rfl, rfl, (by show 2 ≤ sizeLine; decide), .cons ⟨_, rfl⟩ (.cons ⟨_, rfl⟩ .nil)⟩⟩
      | 2, e => exact ⟨S3, rfl, fun H => by rw [← Option.some.inj e]; exact .inr ⟨_, _, _, s3, rfl, rfl, (by show 2 ≤ sizeLine; decide), .cons ⟨_, rfl⟩ (.cons ⟨_, rfl⟩ .nil)⟩⟩
      | 3, e => exact ⟨S4, rfl, fun H => by rw [← Option.some.inj e]; exact .inr ⟨_, _, _, s4, rfl, rfl, (by show 2 ≤ sizeLine; decide), .cons ⟨_, rfl⟩ (.cons ⟨_, rfl⟩ .nil)⟩⟩
      | j + 4, e => cases e⟩
  have F_wh := fun_mk (st := sWhole3) l_wh c_wh k_wh
  have D_wh : Df K mg "is_whole_grids" "is_whole" "is_whole" sWhole3 ["value", "low", "high"] f_wh _ := ⟨F_wh, PySem.W.mg_of X G a_wh, F_wh.binds (ps := ["value", "low", "high"]) fun _ _ _ _ _ _ us hl => match us, hl with | [_, _, _], _ => rfl⟩
  have F_gr := fun_mk (st := sGrid) l_gr c_gr k_gr
  have D_gr : Df K mg "is_grid" "is_grid" "is_grid" sGrid ["value"] f_gr _ := ⟨F_gr, PySem.W.mg_of X G a_gr, F_gr.binds (ps := ["value"]) fun _ _ _ _ _ _ us hl => match us, hl with | [_], _ => rfl⟩
  have F_cg := fun_mk (st := sCheckGrid) l_cg c_cg k_cg
  have D_cg : Df K mg "check_grid" "check_grid" "check_grid" sCheckGrid ["grid"] f_cg _ := ⟨F_cg, PySem.W.mg_of X G a_cg, F_cg.binds (ps := ["grid"]) fun _ _ _ _ _ _ us hl => match us, hl with | [_], _ => rfl⟩
  have F_wo := fun_mk (st := sWhole1) l_wo c_wo k_wo
  have D_wo : Df K mg "is_whole_whole" "is_whole" "is_whole" sWhole1 ["value"] f_wo _ := ⟨F_wo, PySem.W.mg_of X G a_wo, F_wo.binds (ps := ["value"]) fun _ _ _ _ _ _ us hl => match us, hl with | [_], _ => rfl⟩
  have F_bt := fun_mk (st := sBetween) l_bt c_bt k_bt
  have D_bt : Df K mg "is_between" "is_between" "is_between" sBetween ["value", "low", "high"] f_bt _ := ⟨F_bt, PySem.W.mg_of X G a_bt, F_bt.binds (ps := ["value", "low", "high"]) fun _ _ _ _ _ _ us hl => match us, hl with | [_, _, _], _ => rfl⟩
  have F_ini := fun_mk (st := sInit) l_ini c_ini k_ini
  have D_ini : Mf K C "__init__" "Cells.__init__" sInit ["self", "grid"] f_ini _ := ⟨F_ini, ⟨a_ini, i_ini, k_ini⟩, F_ini.binds (ps := ["self", "grid"]) fun _ _ _ _ _ _ us hl => match us, hl with | [_, _], _ => rfl⟩
  have F_cel := fun_mk (st := sCell) l_cel c_cel k_cel
  have D_cel : Mf K C "cell" "Cells.cell" sCell ["self", "at"] f_cel _ := ⟨F_cel, ⟨a_cel, i_cel, k_cel⟩, F_cel.binds (ps := ["self", "at"]) fun _ _ _ _ _ _ us hl => match us, hl with | [_, _], _ => rfl⟩
  have F_idx := fun_mk (st := sIndex) l_idx c_idx k_idx
  have D_idx : Mf K C "index" "Cells.index" sIndex ["self", "cell"] f_idx _ := ⟨F_idx, ⟨a_idx, i_idx, k_idx⟩, F_idx.binds (ps := ["self", "cell"]) fun _ _ _ _ _ _ us hl => match us, hl with | [_, _], _ => rfl⟩
  have F_isc := fun_mk (st := sIsCell) l_isc c_isc k_isc
  have D_isc : Mf K C "is_cell" "Cells.is_cell" sIsCell ["self", "value"] f_isc _ := ⟨F_isc, ⟨a_isc, i_isc, k_isc⟩, F_isc.binds (ps := ["self", "value"]) fun _ _ _ _ _ _ us hl => match us, hl with | [_, _], _ => rfl⟩
  have F_cos := fun_mk (st := sCost) l_cos c_cos k_cos
  have D_cos : Mf K C "cost" "Cells.cost" sCost ["self", "at"] f_cos _ := ⟨F_cos, ⟨a_cos, i_cos, k_cos⟩, F_cos.binds (ps := ["self", "at"]) fun _ _ _ _ _ _ us hl => match us, hl with | [_, _], _ => rfl⟩
  have F_bes := fun_mk (st := sBeside) l_bes c_bes k_bes
  have D_bes : Mf K C "beside" "Cells.beside" sBeside ["self", "at"] f_bes _ := ⟨F_bes, ⟨a_bes, i_bes, k_bes⟩, F_bes.binds (ps := ["self", "at"]) fun _ _ _ _ _ _ us hl => match us, hl with | [_, _], _ => rfl⟩
  have F_go := fun_mk (st := sCheckGoals) l_go c_go k_go
  have D_go : Df K mg "check_goals" "check_goals" "check_goals" sCheckGoals ["known", "goals"] f_go _ := ⟨F_go, PySem.W.mg_of X G a_go, F_go.binds (ps := ["known", "goals"]) fun _ _ _ _ _ _ us hl => match us, hl with | [_, _], _ => rfl⟩
  have F_du := fun_mk (st := sDueAt) l_du c_du k_du
  have D_du : Df K mg "due_at" "due_at" "due_at" sDueAt ["known", "field", "at"] f_du _ := ⟨F_du, PySem.W.mg_of X G a_du, F_du.binds (ps := ["known", "field", "at"]) fun _ _ _ _ _ _ us hl => match us, hl with | [_, _, _], _ => rfl⟩
  have F_pas := fun_mk (st := sPasses) l_pas c_pas k_pas
  have D_pas : Df K mg "passes" "passes" "passes" sPasses ["known", "goals", "field"] f_pas _ := ⟨F_pas, PySem.W.mg_of X G a_pas, F_pas.binds (ps := ["known", "goals", "field"]) fun _ _ _ _ _ _ us hl => match us, hl with | [_, _, _], _ => rfl⟩
  have F_fie := fun_mk (st := sIsField) l_fie c_fie k_fie
  have D_fie : Df K mg "is_field" "is_field" "is_field" sIsField ["grid", "goals", "field"] f_fie _ := ⟨F_fie, PySem.W.mg_of X G a_fie, F_fie.binds (ps := ["grid", "goals", "field"]) fun _ _ _ _ _ _ us hl => match us, hl with | [_, _, _], _ => rfl⟩
  have F_st := fun_mk (st := sStream) l_st c_st k_st
  have D_st : Df K mg "_law_stream" "_law_stream" "_law_stream" sStream ["_law_script"] f_st _ := ⟨F_st, PySem.W.mg_of X G a_st, F_st.binds (ps := ["_law_script"]) fun _ _ _ _ _ _ us hl => match us, hl with | [_], _ => rfl⟩
  have F_nx := fun_mk (st := sNext) l_nx c_nx k_nx
  have D_nx : Df K mg "_law_next" "_law_next" "_law_next" sNext ["_law_stream_here", "_law_many"] f_nx _ := ⟨F_nx, PySem.W.mg_of X G a_nx, F_nx.binds (ps := ["_law_stream_here", "_law_many"]) fun _ _ _ _ _ _ us hl => match us, hl with | [_, _], _ => rfl⟩
  have F_ii := fun_mk (st := sIsInt) l_ii c_ii k_ii
  have D_ii : Df K mg "_law_is_integer" "_law_is_integer" "_law_is_integer" sIsInt ["_law_actual"] f_ii _ := ⟨F_ii, PySem.W.mg_of X G a_ii, F_ii.binds (ps := ["_law_actual"]) fun _ _ _ _ _ _ us hl => match us, hl with | [_], _ => rfl⟩
  have F_eq := fun_mk (st := sEqual) l_eq c_eq k_eq
  have D_eq : Df K mg "_law_equal" "_law_equal" "_law_equal" sEqual ["_law_actual", "_law_due"] f_eq _ := ⟨F_eq, PySem.W.mg_of X G a_eq, F_eq.binds (ps := ["_law_actual", "_law_due"]) fun _ _ _ _ _ _ us hl => match us, hl with | [_, _], _ => rfl⟩
  have F_lg := fun_mk (st := sLawGrid) l_lg c_lg k_lg
  have D_lg : Df K mg "_law_grid" "_law_grid" "_law_grid" sLawGrid ["_law_stream_here", "_law_far"] f_lg _ := ⟨F_lg, PySem.W.mg_of X G a_lg, F_lg.binds (ps := ["_law_stream_here", "_law_far"]) fun _ _ _ _ _ _ us hl => match us, hl with | [_, _], _ => rfl⟩
  have F_ce := fun_mk (st := sCells) l_ce c_ce k_ce
  have D_ce : Df K mg "_law_cells" "_law_cells" "_law_cells" sCells ["_law_grid_here"] f_ce _ := ⟨F_ce, PySem.W.mg_of X G a_ce, F_ce.binds (ps := ["_law_grid_here"]) fun _ _ _ _ _ _ us hl => match us, hl with | [_], _ => rfl⟩
  have F_lc := fun_mk (st := sLawCost) l_lc c_lc k_lc
  have D_lc : Df K mg "_law_cost" "_law_cost" "_law_cost" sLawCost ["_law_grid_here", "_law_cell"] f_lc _ := ⟨F_lc, PySem.W.mg_of X G a_lc, F_lc.binds (ps := ["_law_grid_here", "_law_cell"]) fun _ _ _ _ _ _ us hl => match us, hl with | [_, _], _ => rfl⟩
  have F_lb := fun_mk (st := sLawBeside) l_lb c_lb k_lb
  have D_lb : Df K mg "_law_beside" "_law_beside" "_law_beside" sLawBeside ["_law_grid_here", "_law_cell"] f_lb _ := ⟨F_lb, PySem.W.mg_of X G a_lb, F_lb.binds (ps := ["_law_grid_here", "_law_cell"]) fun _ _ _ _ _ _ us hl => match us, hl with | [_, _], _ => rfl⟩
  have F_di := fun_mk (st := sDist) l_di c_di k_di
  have D_di : Df K mg "_law_distances" "_law_distances" "_law_distances" sDist ["_law_grid_here", "_law_goals"] f_di _ := ⟨F_di, PySem.W.mg_of X G a_di, F_di.binds (ps := ["_law_grid_here", "_law_goals"]) fun _ _ _ _ _ _ us hl => match us, hl with | [_, _], _ => rfl⟩
  have F_pl := fun_mk (st := sPlace) l_pl c_pl k_pl
  have D_pl : Df K mg "_law_place" "_law_place" "_law_place" sPlace ["_law_stream_here", "_law_grid_here"] f_pl _ := ⟨F_pl, PySem.W.mg_of X G a_pl, F_pl.binds (ps := ["_law_stream_here", "_law_grid_here"]) fun _ _ _ _ _ _ us hl => match us, hl with | [_, _], _ => rfl⟩
  have F_tu := fun_mk (st := sTurned) l_tu c_tu k_tu
  have D_tu : Df K mg "_law_turned" "_law_turned" "_law_turned" sTurned ["_law_stream_here", "_law_field"] f_tu _ := ⟨F_tu, PySem.W.mg_of X G a_tu, F_tu.binds (ps := ["_law_stream_here", "_law_field"]) fun _ _ _ _ _ _ us hl => match us, hl with | [_, _], _ => rfl⟩
  have F_ot := fun_mk (st := sOther) l_ot c_ot k_ot
  have D_ot : Df K mg "_law_other" "_law_other" "_law_other" sOther ["_law_stream_here", "_law_grid_here", "_law_goals", "_law_field"] f_ot _ := ⟨F_ot, PySem.W.mg_of X G a_ot, F_ot.binds (ps := ["_law_stream_here", "_law_grid_here", "_law_goals", "_law_field"]) fun _ _ _ _ _ _ us hl => match us, hl with | [_, _, _, _], _ => rfl⟩
  have F_law := fun_mk (st := sLaw) l_law c_law k_law
  have D_law : Df K mg "law" "law" "law" sLaw ["_law_script"] fa _ := ⟨F_law, PySem.W.mg_of X G a_law, F_law.binds (ps := ["_law_script"]) fun _ _ _ _ _ _ us hl => match us, hl with | [_], _ => rfl⟩
  refine ⟨PySem.W.fnOf "law" "law" (defArgs sLaw) (defBody sLaw) (defScope sLaw) .none kV_law dc_law pm_law an_law cd_law ct_law, fun s v => .of_eq rfl, fun base _ _ => ?_⟩
  have o_gr := ok_gr (Pr := l.prog) (w := w) (base := base) D_gr B S D_wh
  have o_cg := ok_cg D_cg D_gr o_gr
  have o_wo := ok_wo (Pr := l.prog) (w := w) (base := base) D_wo B
  have o_bt := ok_bt D_bt D_wo o_wo
  have o_ini := ok_ini (Pr := l.prog) (w := w) (base := base) D_ini T
  have o_cel := ok_cel (Pr := l.prog) (w := w) (base := base) D_cel T
  have o_idx := ok_idx (Pr := l.prog) (w := w) (base := base) D_idx T
  have o_isc := ok_isc D_isc T B D_bt o_bt
  have o_cos := ok_cos (Pr := l.prog) (w := w) (base := base) D_cos T S
  have o_bes := ok_bes D_bes T W D_cel o_cel D_isc o_isc D_idx o_idx D_cos o_cos
  have o_go := ok_go D_go T B S D_isc o_isc
  have o_du := ok_du D_du T B D_bes o_bes D_cos o_cos
  have o_pas := ok_pas D_pas T B D_wo o_wo D_cos o_cos D_du o_du
  have o_fie := ok_fie D_fie T D_cg o_cg D_ini o_ini D_go o_go D_idx o_idx D_pas o_pas
  have o_st := ok_st (Pr := l.prog) (w := w) (base := base) D_st B
  have o_nx := ok_nx (Pr := l.prog) (w := w) (base := base) D_nx B
  have o_ii := ok_ii (Pr := l.prog) (w := w) (base := base) D_ii B
  have o_e0 := ok_e0 D_eq B D_ii o_ii
  have o_e1 := ok_e1 D_eq B o_e0
  have o_lg := ok_lg D_lg B D_nx o_nx
  have o_ce := ok_ce (Pr := l.prog) (w := w) (base := base) D_ce B
  have o_lc := ok_lc (Pr := l.prog) (w := w) (base := base) D_lc
  have o_lb := ok_lb D_lb D_lc o_lc
  have o_di := ok_di D_di B D_lc o_lc D_ce o_ce D_lb o_lb
  have o_pl := ok_pl D_pl D_nx o_nx
  have o_tu := ok_tu D_tu B D_nx o_nx D_ii o_ii
  have o_ot := ok_ot D_ot B D_nx o_nx D_tu o_tu D_di o_di D_pl o_pl D_ce o_ce
  exact ok_law D_law B D_st o_st D_lg o_lg D_nx o_nx D_pl o_pl D_di o_di D_ce o_ce D_fie o_fie D_ot o_ot D_eq o_e1
theorem walk {l : PySem.W.OpenLaw} {q : Program} {loose : List Str} {XP : (Str → Option Value) → Heap → Prop} {YP : World → Heap → Prop} {d : DefRec} {K : Params → PySem.W.Frag} (hn : l.most = some 63) (hdf : d.params.defaults = [])
    (hY : ∀ (w : World) (h : Heap), YP w h → (K w.params).In h)
    (F : ∀ (w : World) (mg : Str → Option Value) (fa : Addr) (h : Heap), (K w.params).In h → h.Ns mainGlobals mg → mg d.name = some (.ref fa) →
      ∃ fd : FuncData, (∀ (s : Shared) (u : Value), BindsTo s fd ⟨[u], []⟩ [("_law_script", u)]) ∧ ∀ base : Heap, (K w.params).In base → base.Ns mainGlobals mg → FnOk l.prog w (K w.params) mg base CX0 8 fa fd ["_law_script"] (spLaw (K w.params))) :
    PySem.W.WalkO q loose XP YP l.row.toRowW d [] (fun f vs => PySem.call f vs) :=
  L2.walk_of (n := 63) (k := 8) (x := "_law_script") (CX := fun _ => CX0) (sp := fun w => spLaw (K w.params)) hn (by decide) hdf ⟨rfl, by decide, by decide⟩ hY F (fun _ _ a ns hl _ hS => ⟨a, ns, rfl, hS, fun _ => rfl⟩) fun _ _ _ _ _ z => z
end Kf
open PySem PySem.W PyProof.Rows
set_option maxRecDepth 100000 in
set_option maxHeartbeats 0 in
theorem PySem.Challenge.cw_alikeplay_k83_whole_any_field_holds : PySem.Challenge.rw_alikeplay_k83_whole_any_field.Holds := by
  w_on; o_law; k_head; (case hw => w_witness2)
  k_fill
  refine Kf.walk (l := PySem.Challenge.rw_alikeplay_k83_whole_any_field) rfl rfl (fun w h Y => PySem.W.kIn_of Y) ?F
  case F =>
    intro w mg fa h KX G hmg
    refine' Kf.all_mk KX G hmg ?aC ?a_wh ?l_wh ?c_wh ?k_wh ?a_gr ?l_gr ?c_gr ?k_gr ?a_cg ?l_cg ?c_cg ?k_cg ?a_wo ?l_wo ?c_wo ?k_wo ?a_bt ?l_bt ?c_bt ?k_bt ?a_ini ?i_ini ?l_ini ?c_ini ?k_ini ?a_cel ?i_cel ?l_cel ?c_cel ?k_cel ?a_idx ?i_idx ?l_idx ?c_idx ?k_idx ?a_isc ?i_isc ?l_isc ?c_isc ?k_isc ?a_cos ?i_cos ?l_cos ?c_cos ?k_cos ?a_bes ?i_bes ?l_bes ?c_bes ?k_bes ?a_go ?l_go ?c_go ?k_go ?a_du ?l_du ?c_du ?k_du ?a_pas ?l_pas ?c_pas ?k_pas ?a_fie ?l_fie ?c_fie ?k_fie ?a_st ?l_st ?c_st ?k_st ?a_nx ?l_nx ?c_nx ?k_nx ?a_ii ?l_ii ?c_ii ?k_ii ?a_eq ?l_eq ?c_eq ?k_eq ?a_lg ?l_lg ?c_lg ?k_lg ?a_ce ?l_ce ?c_ce ?k_ce ?a_lc ?l_lc ?c_lc ?k_lc ?a_lb ?l_lb ?c_lb ?k_lb ?a_di ?l_di ?c_di ?k_di ?a_pl ?l_pl ?c_pl ?k_pl ?a_tu ?l_tu ?c_tu ?k_tu ?a_ot ?l_ot ?c_ot ?k_ot ?a_law ?l_law ?c_law ?k_law ?pg ?hd ?po ?sa ?mk ?kc ?n_columns ?n_rows ?n_signs ?z_isinstance ?z_int ?z_bool ?z_str ?z_tuple ?z_list ?z_len ?z_all ?z_range ?z_min ?z_abs ?z_enumerate ?g1 ?g2 ?g3 ?g4 ?g5 ?s0 ?s1 ?s2 ?s3 ?s4
    (case aC => k_is)
    (case a_wh => k_is)
    (case l_wh => k_is)
    (case c_wh => k_is)
    (case k_wh => k_is)
    (case a_gr => k_is)
    (case l_gr => k_is)
    (case c_gr => k_is)
    (case k_gr => k_is)
    (case a_cg => k_is)
    (case l_cg => k_is)
    (case c_cg => k_is)
    (case k_cg => k_is)
    (case a_wo => k_is)
    (case l_wo => k_is)
    (case c_wo => k_is)
    (case k_wo => k_is)
    (case a_bt => k_is)
    (case l_bt => k_is)
    (case c_bt => k_is)
    (case k_bt => k_is)
    (case a_ini => k_is)
    (case i_ini => k_is)
    (case l_ini => k_is)
    (case c_ini => k_is)
    (case k_ini => k_is)
    (case a_cel => k_is)
    (case i_cel => k_is)
    (case l_cel => k_is)
    (case c_cel => k_is)
    (case k_cel => k_is)
    (case a_idx => k_is)
    (case i_idx => k_is)
    (case l_idx => k_is)
    (case c_idx => k_is)
    (case k_idx => k_is)
    (case a_isc => k_is)
    (case i_isc => k_is)
    (case l_isc => k_is)
    (case c_isc => k_is)
    (case k_isc => k_is)
    (case a_cos => k_is)
    (case i_cos => k_is)
    (case l_cos => k_is)
    (case c_cos => k_is)
    (case k_cos => k_is)
    (case a_bes => k_is)
    (case i_bes => k_is)
    (case l_bes => k_is)
    (case c_bes => k_is)
    (case k_bes => k_is)
    (case a_go => k_is)
    (case l_go => k_is)
    (case c_go => k_is)
    (case k_go => k_is)
    (case a_du => k_is)
    (case l_du => k_is)
    (case c_du => k_is)
    (case k_du => k_is)
    (case a_pas => k_is)
    (case l_pas => k_is)
    (case c_pas => k_is)
    (case k_pas => k_is)
    (case a_fie => k_is)
    (case l_fie => k_is)
    (case c_fie => k_is)
    (case k_fie => k_is)
    (case a_st => k_is)
    (case l_st => k_is)
    (case c_st => k_is)
    (case k_st => k_is)
    (case a_nx => k_is)
    (case l_nx => k_is)
    (case c_nx => k_is)
    (case k_nx => k_is)
    (case a_ii => k_is)
    (case l_ii => k_is)
    (case c_ii => k_is)
    (case k_ii => k_is)
    (case a_eq => k_is)
    (case l_eq => k_is)
    (case c_eq => k_is)
    (case k_eq => k_is)
    (case a_lg => k_is)
    (case l_lg => k_is)
    (case c_lg => k_is)
    (case k_lg => k_is)
    (case a_ce => k_is)
    (case l_ce => k_is)
    (case c_ce => k_is)
    (case k_ce => k_is)
    (case a_lc => k_is)
    (case l_lc => k_is)
    (case c_lc => k_is)
    (case k_lc => k_is)
    (case a_lb => k_is)
    (case l_lb => k_is)
    (case c_lb => k_is)
    (case k_lb => k_is)
    (case a_di => k_is)
    (case l_di => k_is)
    (case c_di => k_is)
    (case k_di => k_is)
    (case a_pl => k_is)
    (case l_pl => k_is)
    (case c_pl => k_is)
    (case k_pl => k_is)
    (case a_tu => k_is)
    (case l_tu => k_is)
    (case c_tu => k_is)
    (case k_tu => k_is)
    (case a_ot => k_is)
    (case l_ot => k_is)
    (case c_ot => k_is)
    (case k_ot => k_is)
    (case a_law => k_is)
    (case l_law => k_is)
    (case c_law => k_is)
    (case k_law => k_is)
    (case pg => k_is)
    (case hd => k_is)
    (case po => k_is)
    (case sa => k_is)
    (case mk => k_is)
    (case kc => k_is)
    (case n_columns => k_is)
    (case n_rows => k_is)
    (case n_signs => k_is)
    (case z_isinstance => k_is)
    (case z_int => k_is)
    (case z_bool => k_is)
    (case z_str => k_is)
    (case z_tuple => k_is)
    (case z_list => k_is)
    (case z_len => k_is)
    (case z_all => k_is)
    (case z_range => k_is)
    (case z_min => k_is)
    (case z_abs => k_is)
    (case z_enumerate => k_is)
    (case g1 => k_is)
    (case g2 => k_is)
    (case g3 => k_is)
    (case g4 => k_is)
    (case g5 => k_is)
    (case s0 => k_is)
    (case s1 => k_is)
    (case s2 => k_is)
    (case s3 => k_is)
    (case s4 => k_is)
