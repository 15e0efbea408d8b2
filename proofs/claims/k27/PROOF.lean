import PyProof.Rows.All
import Wide.All
import OpenK.AllK
import Wide.FinOn
import HandS.ForMost
import HandS.More
import HandS.Deep
import HandS.IsInst
import HandS.TupAny
import HandS.Flow
import HandS.Lambda
import HandS.EndTab
import HandS.HeadWalk
import HandS.Defaults
import HandS.Head0
import HandS.Head1
import HandS.Head2
import HandS.HeadEnd
import HandS.HeadHook1
import HandS.HeadHook2
import HandS.HeadHook3
import HandS.HeadHook4
import KE.SortKeyHeap
import HandS.Codes
import KE.KNestM
import PySem.Challenge.RW_truceroll_k27_whole_rule_is_its_clauses
set_option Elab.async false
set_option linter.all false
set_option maxRecDepth 100000
section
/-! The plain law: rules, facts, clauses, the told ones. No program in sight. -/
namespace KM
variable {α : Type} [DecidableEq α]

abbrev Lit (α : Type) := α × Bool
abbrev Cl (α : Type) := List (α × Bool)
inductive O where
  | and | or | thn | same
  deriving DecidableEq
def O.op : O → Bool → Bool → Bool
  | .and, a, b => a && b
  | .or, a, b => a || b
  | .thn, a, b => !a || b
  | .same, a, b => a == b
inductive R (α : Type) where
  | cst (b : Bool)
  | is (n : α)
  | neg (r : R α)
  | bin (o : O) (r s : R α)
def R.ev (g : α → Bool) : R α → Bool
  | .cst b => b
  | .is n => g n
  | .neg r => !(r.ev g)
  | .bin o r s => o.op (r.ev g) (s.ev g)
def R.names : R α → List α
  | .cst _ => []
  | .is n => [n]
  | .neg r => r.names
  | .bin _ r s => r.names ++ s.names
def R.depth : R α → Nat
  | .cst _ => 1
  | .is _ => 1
  | .neg r => r.depth + 1
  | .bin _ r s => max r.depth s.depth + 1
theorem R.names_len : ∀ r : R α, 2 * r.names.length ≤ 2 ^ r.depth
  | .cst _ => by simp [R.names]
  | .is _ => by simp [R.names, R.depth]
  | .neg r => by
    have h := R.names_len r
    simp only [R.names, R.depth, Nat.pow_succ]
    omega
  | .bin _ r s => by
    have h1 := R.names_len r
    have h2 := R.names_len s
    have h3 : 2 ^ r.depth ≤ 2 ^ max r.depth s.depth := Nat.pow_le_pow_right (by decide) (Nat.le_max_left _ _)
    have h4 : 2 ^ s.depth ≤ 2 ^ max r.depth s.depth := Nat.pow_le_pow_right (by decide) (Nat.le_max_right _ _)
    simp only [R.names, R.depth, Nat.pow_succ, List.length_append]
    omega
theorem R.names_32 {r : R α} (h : r.depth ≤ 6) : r.names.length ≤ 32 := by
  have h1 := R.names_len r
  have h2 : 2 ^ r.depth ≤ 2 ^ 6 := Nat.pow_le_pow_right (by decide) h
  omega
/-- the rules in a rule -/
def R.parts : R α → List (R α)
  | .cst _ => []
  | .is _ => []
  | .neg r => [r]
  | .bin _ r s => [r, s]
theorem R.depth_pos : ∀ r : R α, 1 ≤ r.depth
  | .cst _ => Nat.le_refl 1
  | .is _ => Nat.le_refl 1
  | .neg _ => Nat.succ_le_succ (Nat.zero_le _)
  | .bin _ _ _ => Nat.succ_le_succ (Nat.zero_le _)
theorem R.ev_congr {g g' : α → Bool} : ∀ r : R α, (∀ n ∈ r.names, g n = g' n) → r.ev g = r.ev g'
  | .cst _, _ => rfl
  | .is n, h => h n (by simp [R.names])
  | .neg r, h => by
    simp only [R.ev]
    rw [R.ev_congr r h]
  | .bin o r s, h => by
    simp only [R.ev]
    rw [R.ev_congr r (fun n hn => h n (by simp [R.names, hn])), R.ev_congr s (fun n hn => h n (by simp [R.names, hn]))]

/-! ### facts -/
def val (f : List (α × Bool)) (n : α) : Bool := (f.lookup n).getD false
def grow (rows : List (List (α × Bool))) (n : α) : List (List (α × Bool)) := rows.flatMap fun f => [f ++ [(n, false)], f ++ [(n, true)]]
def allFrom (rows : List (List (α × Bool))) (ns : List α) : List (List (α × Bool)) := ns.foldl grow rows
def allF (ns : List α) : List (List (α × Bool)) := allFrom [[]] ns
theorem allFrom_out : ∀ (ns : List α) (rows : List (List (α × Bool))) (f : List (α × Bool)), f ∈ allFrom rows ns → ∃ r ∈ rows, ∃ d : List (α × Bool), f = r ++ d ∧ d.map (·.1) = ns
  | [], rows, f, h => ⟨f, h, [], by simp, rfl⟩
  | n :: ns, rows, f, h => by
    obtain ⟨r, hr, d, rfl, hd⟩ := allFrom_out ns (grow rows n) f h
    unfold grow at hr
    obtain ⟨q, hq, hm⟩ := List.mem_flatMap.mp hr
    have hm : r = q ++ [(n, false)] ∨ r = q ++ [(n, true)] := by simpa using hm
    rcases hm with rfl | rfl
    · exact ⟨q, hq, (n, false) :: d, by simp, by simp [hd]⟩
    · exact ⟨q, hq, (n, true) :: d, by simp, by simp [hd]⟩
theorem allFrom_in : ∀ (ns : List α) (rows : List (List (α × Bool))) (r d : List (α × Bool)), r ∈ rows → d.map (·.1) = ns → r ++ d ∈ allFrom rows ns
  | [], rows, r, d, h, hd => by
    have e : d = [] := List.map_eq_nil_iff.mp hd
    subst e
    simpa [allFrom] using h
  | n :: ns, rows, r, d, h, hd => by
    cases d with
    | nil => simp at hd
    | cons p d =>
      obtain ⟨m, b⟩ := p
      have hd0 : m = n ∧ d.map (·.1) = ns := by simpa using hd
      clear hd
      obtain ⟨rfl, hd⟩ := hd0
      have q := allFrom_in ns (grow rows m) (r ++ [(m, b)]) d (by
        unfold grow
        refine List.mem_flatMap.mpr ⟨r, h, ?_⟩
        cases b <;> simp) hd
      have e : r ++ (m, b) :: d = r ++ [(m, b)] ++ d := by simp
      rw [e]
      exact q
theorem allF_out {ns : List α} {f : List (α × Bool)} (h : f ∈ allF ns) : f.map (·.1) = ns := by
  obtain ⟨r, hr, d, rfl, hd⟩ := allFrom_out ns [[]] f h
  have e : r = [] := by simpa using hr
  subst e
  simpa using hd
theorem allF_in {ns : List α} {f : List (α × Bool)} (h : f.map (·.1) = ns) : f ∈ allF ns := by
  have q := allFrom_in ns [[]] [] f (by simp) h
  simpa [allF] using q
def mk (ns : List α) (g : α → Bool) : List (α × Bool) := ns.map fun n => (n, g n)
theorem mk_in (ns : List α) (g : α → Bool) : mk ns g ∈ allF ns := allF_in (by
  unfold mk
  rw [List.map_map]
  exact List.map_id'' (fun _ => rfl) ns)
theorem mk_look {g : α → Bool} {n : α} : ∀ {ns : List α}, n ∈ ns → (mk ns g).lookup n = some (g n)
  | [], h => by simp at h
  | m :: ns, h => by
    show List.lookup n ((m, g m) :: mk ns g) = some (g n)
    rw [List.lookup_cons]
    by_cases e : n = m
    · subst e
      simp
    · have hb : (n == m) = false := beq_eq_false_iff_ne.mpr e
      rw [hb]
      exact mk_look ((List.mem_cons.mp h).resolve_left e)
theorem mk_val {ns : List α} {g : α → Bool} {n : α} (h : n ∈ ns) : val (mk ns g) n = g n := by
  unfold val
  rw [mk_look h]
  all_goals rfl
theorem look_some {n : α} : ∀ {f : List (α × Bool)}, n ∈ f.map (·.1) → f.lookup n = some (val f n)
  | [], h => by simp at h
  | (m, b) :: f, h => by
    unfold val
    rw [List.lookup_cons]
    by_cases e : n = m
    · subst e
      simp
    · have hb : (n == m) = false := beq_eq_false_iff_ne.mpr e
      rw [hb]
      have h2 : n ∈ f.map (·.1) := by
        have h : n = m ∨ n ∈ f.map (·.1) := by simpa using h
        exact h.resolve_left e
      exact look_some h2

/-! ### clauses -/
def more (rows : List (Cl α)) (n : α) : List (Cl α) := rows ++ rows.map (· ++ [(n, false)]) ++ rows.map (· ++ [(n, true)])
def clFrom (rows : List (Cl α)) (ns : List α) : List (Cl α) := ns.foldl more rows
def clOver (ns : List α) : List (Cl α) := clFrom [[]] ns
theorem more_mem {rows : List (Cl α)} {n : α} {c : Cl α} : c ∈ more rows n ↔ c ∈ rows ∨ ∃ r ∈ rows, ∃ b, c = r ++ [(n, b)] := by
  unfold more
  simp only [List.mem_append, List.mem_map]
  constructor
  · rintro ((h | ⟨r, h, rfl⟩) | ⟨r, h, rfl⟩)
    · exact .inl h
    · exact .inr ⟨r, h, false, rfl⟩
    · exact .inr ⟨r, h, true, rfl⟩
  · rintro (h | ⟨r, h, b, rfl⟩)
    · exact .inl (.inl h)
    · cases b
      · exact .inl (.inr ⟨r, h, rfl⟩)
      · exact .inr ⟨r, h, rfl⟩
theorem clFrom_out : ∀ (ns : List α) (rows : List (Cl α)) (c : Cl α), c ∈ clFrom rows ns → ∃ r ∈ rows, ∃ d : Cl α, c = r ++ d ∧ (d.map (·.1)).Sublist ns
  | [], rows, c, h => ⟨c, h, [], by simp, .slnil⟩
  | n :: ns, rows, c, h => by
    obtain ⟨r, hr, d, rfl, hd⟩ := clFrom_out ns (more rows n) c h
    rcases more_mem.mp hr with h1 | ⟨q, h1, b, rfl⟩
    · exact ⟨r, h1, d, rfl, .cons _ hd⟩
    · exact ⟨q, h1, (n, b) :: d, by simp, .cons_cons _ hd⟩
theorem clFrom_in : ∀ (ns : List α) (rows : List (Cl α)) (r d : Cl α), r ∈ rows → (d.map (·.1)).Sublist ns → r ++ d ∈ clFrom rows ns
  | [], rows, r, d, h, hd => by
    have e : d = [] := List.map_eq_nil_iff.mp (List.sublist_nil.mp hd)
    subst e
    simpa [clFrom] using h
  | n :: ns, rows, r, d, h, hd => by
    cases d with
    | nil =>
      exact clFrom_in ns (more rows n) r [] (more_mem.mpr (.inl h)) (List.nil_sublist _)
    | cons p d =>
      obtain ⟨m, b⟩ := p
      have hd : (m :: d.map (·.1)).Sublist (n :: ns) := hd
      cases hd with
      | cons _ h1 => exact clFrom_in ns (more rows n) r ((m, b) :: d) (more_mem.mpr (.inl h)) h1
      | cons_cons _ h1 =>
        have q := clFrom_in ns (more rows n) (r ++ [(n, b)]) d (more_mem.mpr (.inr ⟨r, h, b, rfl⟩)) h1
        have e : r ++ (n, b) :: d = r ++ [(n, b)] ++ d := by simp
        rw [e]
        exact q
theorem clOver_mem {ns : List α} {c : Cl α} : c ∈ clOver ns ↔ (c.map (·.1)).Sublist ns := by
  constructor
  · intro h
    obtain ⟨r, hr, d, rfl, hd⟩ := clFrom_out ns [[]] c h
    have e : r = [] := by simpa using hr
    subst e
    simpa using hd
  · intro h
    have q := clFrom_in ns [[]] [] c (by simp) h
    simpa [clOver] using q
theorem more_len (rows : List (Cl α)) (n : α) : (more rows n).length = 3 * rows.length := by
  unfold more
  simp only [List.length_append, List.length_map]
  omega
theorem clFrom_len : ∀ (ns : List α) (rows : List (Cl α)), (clFrom rows ns).length = 3 ^ ns.length * rows.length
  | [], rows => by simp [clFrom]
  | n :: ns, rows => by
    have q := clFrom_len ns (more rows n)
    show (clFrom (more rows n) ns).length = _
    rw [q, more_len, List.length_cons, Nat.pow_succ, Nat.mul_assoc]
theorem clOver_len (ns : List α) : (clOver ns).length = 3 ^ ns.length := by
  have q := clFrom_len ns [([] : Cl α)]
  simpa [clOver] using q
theorem grow_len : ∀ (rows : List (List (α × Bool))) (n : α), (grow rows n).length = 2 * rows.length
  | [], _ => rfl
  | r :: rows, n => by
    have q := grow_len rows n
    show ([r ++ [(n, false)], r ++ [(n, true)]] ++ grow rows n).length = _
    rw [List.length_append, q]
    simp only [List.length_cons, List.length_nil]
    omega
theorem allFrom_len : ∀ (ns : List α) (rows : List (List (α × Bool))), (allFrom rows ns).length = 2 ^ ns.length * rows.length
  | [], rows => by simp [allFrom]
  | n :: ns, rows => by
    have q := allFrom_len ns (grow rows n)
    show (allFrom (grow rows n) ns).length = _
    rw [q, grow_len, List.length_cons, Nat.pow_succ, Nat.mul_assoc]
theorem allF_len (ns : List α) : (allF ns).length = 2 ^ ns.length := by
  have q := allFrom_len ns [([] : List (α × Bool))]
  simpa [allF] using q

/-! ### parts, the row without repeats, the told ones -/
def part (a b : Cl α) : Bool := a.all fun l => decide (l ∈ b)
theorem part_iff {a b : Cl α} : part a b = true ↔ ∀ l ∈ a, l ∈ b := by
  unfold part
  simp [List.all_eq_true]
theorem part_refl (a : Cl α) : part a a = true := part_iff.mpr fun _ h => h
def ddStep (acc : List (Cl α)) (c : Cl α) : List (Cl α) := if acc.getLast? = some c then acc else acc ++ [c]
def dd (l : List (Cl α)) : List (Cl α) := l.foldl ddStep []
theorem dd_from : ∀ (l acc : List (Cl α)), ∃ d : List (Cl α), l.foldl ddStep acc = acc ++ d ∧ d.Sublist l ∧ (∀ c ∈ l, c ∈ acc ++ d)
  | [], acc => ⟨[], by simp, .slnil, by simp⟩
  | c :: l, acc => by
    by_cases e : acc.getLast? = some c
    · obtain ⟨d, h1, h2, h3⟩ := dd_from l acc
      refine ⟨d, ?_, .cons _ h2, fun x hx => ?_⟩
      · show l.foldl ddStep (ddStep acc c) = _
        rw [show ddStep acc c = acc from if_pos e]
        exact h1
      · rcases List.mem_cons.mp hx with rfl | hx
        · exact List.mem_append_left _ (List.mem_of_getLast? e)
        · exact h3 x hx
    · obtain ⟨d, h1, h2, h3⟩ := dd_from l (acc ++ [c])
      refine ⟨c :: d, ?_, .cons_cons _ h2, fun x hx => ?_⟩
      · show l.foldl ddStep (ddStep acc c) = _
        rw [show ddStep acc c = acc ++ [c] from if_neg e, h1]
        simp
      · rcases List.mem_cons.mp hx with rfl | hx
        · simp
        · simpa using h3 x hx
theorem dd_sub (l : List (Cl α)) : (dd l).Sublist l := by
  obtain ⟨d, h1, h2, _⟩ := dd_from l []
  unfold dd
  rw [h1]
  simpa using h2
theorem dd_mem {l : List (Cl α)} {c : Cl α} : c ∈ dd l ↔ c ∈ l := by
  constructor
  · exact fun h => (dd_sub l).subset h
  · intro h
    obtain ⟨d, h1, _, h3⟩ := dd_from l []
    unfold dd
    rw [h1]
    exact h3 c h
def tStep (fol : Cl α → Bool) (acc : List (Cl α)) (c : Cl α) : List (Cl α) := if (!(acc.any fun o => part o c) && fol c) = true then acc ++ [c] else acc
def told (fol : Cl α → Bool) (l : List (Cl α)) : List (Cl α) := l.foldl (tStep fol) []
theorem told_from (fol : Cl α → Bool) : ∀ (l acc : List (Cl α)), ∃ d : List (Cl α), l.foldl (tStep fol) acc = acc ++ d ∧ d.Sublist l ∧ (∀ c ∈ d, fol c = true) ∧ (∀ c ∈ l, fol c = true → ∃ t ∈ acc ++ d, part t c = true) ∧
    (acc.Pairwise (fun a b => part a b = false) → (acc ++ d).Pairwise fun a b => part a b = false)
  | [], acc => ⟨[], by simp, .slnil, by simp, by simp, by simp⟩
  | c :: l, acc => by
    by_cases e : (!(acc.any fun o => part o c) && fol c) = true
    · obtain ⟨e1, e2⟩ := Bool.and_eq_true_iff.mp e
      obtain ⟨d, h1, h2, h3, h4, h5⟩ := told_from fol l (acc ++ [c])
      refine ⟨c :: d, ?_, .cons_cons _ h2, fun x hx => ?_, fun x hx fx => ?_, fun ha => ?_⟩
      · show l.foldl (tStep fol) (tStep fol acc c) = _
        rw [show tStep fol acc c = acc ++ [c] from if_pos e, h1]
        simp
      · rcases List.mem_cons.mp hx with rfl | hx
        · exact e2
        · exact h3 x hx
      · rcases List.mem_cons.mp hx with rfl | hx
        · exact ⟨x, by simp, part_refl x⟩
        · obtain ⟨t, ht, hp⟩ := h4 x hx fx
          exact ⟨t, by simpa using ht, hp⟩
      · have q := h5 (by
          rw [List.pairwise_append]
          refine ⟨ha, by simp, fun a hm b hb => ?_⟩
          have eb : b = c := by simpa using hb
          subst eb
          have e1' : (acc.any fun o => part o b) = false := by simpa using e1
          cases q : part a b with
          | false => rfl
          | true =>
            have : (acc.any fun o => part o b) = true := List.any_eq_true.mpr ⟨a, hm, q⟩
            rw [e1'] at this
            cases this)
        simpa using q
    · obtain ⟨d, h1, h2, h3, h4, h5⟩ := told_from fol l acc
      refine ⟨d, ?_, .cons _ h2, h3, fun x hx fx => ?_, h5⟩
      · show l.foldl (tStep fol) (tStep fol acc c) = _
        rw [show tStep fol acc c = acc from if_neg e]
        exact h1
      · rcases List.mem_cons.mp hx with rfl | hx
        · rw [fx, Bool.and_true] at e
          have e' : (acc.any fun o => part o x) = true := by simpa using e
          obtain ⟨t, ht, hp⟩ := List.any_eq_true.mp e'
          exact ⟨t, List.mem_append_left _ ht, hp⟩
        · exact h4 x hx fx
theorem told_sub (fol : Cl α → Bool) (l : List (Cl α)) : (told fol l).Sublist l := by
  obtain ⟨d, h1, h2, _⟩ := told_from fol l []
  unfold told
  rw [h1]
  simpa using h2
theorem told_fol {fol : Cl α → Bool} {l : List (Cl α)} {c : Cl α} (h : c ∈ told fol l) : fol c = true := by
  obtain ⟨d, h1, _, h3, _⟩ := told_from fol l []
  unfold told at h
  rw [h1] at h
  exact h3 c (by simpa using h)
theorem told_cover {fol : Cl α → Bool} {l : List (Cl α)} {c : Cl α} (h : c ∈ l) (f : fol c = true) : ∃ t ∈ told fol l, part t c = true := by
  obtain ⟨d, h1, _, _, h4, _⟩ := told_from fol l []
  unfold told
  rw [h1]
  exact h4 c h f
theorem told_pair (fol : Cl α → Bool) (l : List (Cl α)) : (told fol l).Pairwise fun a b => part a b = false := by
  obtain ⟨d, h1, _, _, _, h5⟩ := told_from fol l []
  unfold told
  rw [h1]
  exact h5 .nil

/-! ### counting -/
theorem sub_full : ∀ {a b : List (Lit α)}, a.Nodup → (∀ x ∈ a, x ∈ b) → b.length ≤ a.length → ∀ x ∈ b, x ∈ a
  | [], b, _, _, hl, x, hx => by
    have e : b = [] := List.length_eq_zero_iff.mp (Nat.le_zero.mp hl)
    rw [e] at hx
    exact hx
  | y :: a, b, hn, hs, hl, x, hx => by
    obtain ⟨h1, h2⟩ := List.nodup_cons.mp hn
    have hy : y ∈ b := hs y (by simp)
    by_cases e : x = y
    · subst e
      simp
    · have hle := List.length_erase_of_mem hy
      have hp : 0 < b.length := List.length_pos_of_mem hy
      have q := sub_full (a := a) (b := b.erase y) h2 (fun z hz => by
        have hne : z ≠ y := fun e => h1 (e ▸ hz)
        exact (List.mem_erase_of_ne hne).mpr (hs z (by simp [hz]))) (by
        rw [hle]
        rw [List.length_cons] at hl
        omega) x ((List.mem_erase_of_ne e).mpr hx)
      simp [q]
theorem nodup_len : ∀ {a b : List α}, a.Nodup → (∀ x ∈ a, x ∈ b) → a.length ≤ b.length
  | [], b, _, _ => Nat.zero_le _
  | y :: a, b, hn, hs => by
    obtain ⟨h1, h2⟩ := List.nodup_cons.mp hn
    have hy : y ∈ b := hs y (by simp)
    have hle := List.length_erase_of_mem hy
    have hp : 0 < b.length := List.length_pos_of_mem hy
    have q := nodup_len (a := a) (b := b.erase y) h2 fun z hz => by
      have hne : z ≠ y := fun e => h1 (e ▸ hz)
      exact (List.mem_erase_of_ne hne).mpr (hs z (by simp [hz]))
    rw [hle] at q
    rw [List.length_cons]
    omega
theorem nodup_of_names {c : Cl α} {ns : List α} (hn : ns.Nodup) (h : (c.map (·.1)).Sublist ns) : c.Nodup := by
  have q : (c.map (·.1)).Nodup := h.nodup hn
  exact List.Pairwise.of_map (·.1) (fun a b hab e => hab (congrArg _ e)) q
/-! ### the law -/
def cHolds (g : α → Bool) (c : Cl α) : Bool := c.any fun l => g l.1 == l.2
def folBy (rows : List (List (α × Bool))) (c : Cl α) : Bool := rows.all fun f => c.any fun l => f.lookup l.1 == some l.2
def rowsU (r : R α) (ys : List α) : List (List (α × Bool)) := (allF ys).filter fun f => r.ev (val f)
/-- what the told clauses are told of: zs, ys rows of the rule's names -/
structure Given (r : R α) (ys zs : List α) (L : List (Cl α)) : Prop where
  yn : ∀ n, n ∈ r.names → n ∈ ys
  zy : ∀ n, n ∈ zs ↔ n ∈ ys
  zn : zs.Nodup
  lm : ∀ c, c ∈ L ↔ (c.map (·.1)).Sublist zs
  ll : L.Pairwise fun a b => a.length ≤ b.length
section
variable {r : R α} {ys zs : List α} {L : List (Cl α)}
abbrev toldR (r : R α) (ys : List α) (L : List (Cl α)) : List (Cl α) := told (folBy (rowsU r ys)) L
theorem told_names (G : Given r ys zs L) {c : Cl α} (h : c ∈ toldR r ys L) : (c.map (·.1)).Sublist zs := (G.lm c).mp ((told_sub _ _).subset h)
theorem fol_iff {c : Cl α} (hc : ∀ l ∈ c, l.1 ∈ ys) : folBy (rowsU r ys) c = true ↔ ∀ g : α → Bool, r.ev (val (mk ys g)) = true → cHolds g c = true := by
  unfold folBy
  rw [List.all_eq_true]
  constructor
  · intro h g hg
    have q := h (mk ys g) (List.mem_filter.mpr ⟨mk_in ys g, hg⟩)
    obtain ⟨l, hl, e⟩ := List.any_eq_true.mp q
    refine List.any_eq_true.mpr ⟨l, hl, ?_⟩
    rw [mk_look (hc l hl)] at e
    simpa using e
  · intro h f hf
    obtain ⟨h1, h2⟩ := List.mem_filter.mp hf
    have hk := allF_out h1
    have e : mk ys (val f) = mk ys (val f) := rfl
    have key : r.ev (val (mk ys (val f))) = true ∨ r.ev (val (mk ys (val f))) = false := by
      cases r.ev (val (mk ys (val f))) <;> simp
    have ev2 : ∀ n ∈ ys, val (mk ys (val f)) n = val f n := fun n hn => mk_val hn
    have evAll : ∀ n, val (mk ys (val f)) n = val f n := fun n => by
      by_cases hn : n ∈ ys
      · exact ev2 n hn
      · have n1 : n ∉ f.map (·.1) := by rw [hk]; exact hn
        have n2 : n ∉ (mk ys (val f)).map (·.1) := by
          unfold mk
          rw [List.map_map]
          intro z
          obtain ⟨m, hm, e⟩ := List.mem_map.mp z
          have e : m = n := e
          exact hn (e ▸ hm)
        have nol : ∀ {d : List (α × Bool)}, n ∉ d.map (·.1) → d.lookup n = none := by
          intro d
          induction d with
          | nil => intro _; rfl
          | cons p d ih =>
            intro hd
            obtain ⟨m, b⟩ := p
            rw [List.lookup_cons]
            have h3 : n ≠ m ∧ n ∉ d.map (·.1) := by
              simp only [List.map_cons, List.mem_cons, not_or] at hd
              exact hd
            rw [beq_eq_false_iff_ne.mpr h3.1]
            exact ih h3.2
        unfold val
        rw [nol n1]
        rw [nol (d := mk ys (fun n => (List.lookup n f).getD false)) n2]
    have hr : r.ev (val (mk ys (val f))) = true := by
      rw [R.ev_congr r (g' := val f) fun n _ => evAll n]
      exact h2
    obtain ⟨l, hl, e⟩ := List.any_eq_true.mp (h (val f) hr)
    refine List.any_eq_true.mpr ⟨l, hl, ?_⟩
    have hm : l.1 ∈ f.map (·.1) := by rw [hk]; exact hc l hl
    rw [look_some hm]
    simpa using e
theorem ev_mk (G : Given r ys zs L) (g : α → Bool) : r.ev (val (mk ys g)) = r.ev g := R.ev_congr r fun n hn => mk_val (G.yn n hn)
theorem names_in (G : Given r ys zs L) {c : Cl α} (h : (c.map (·.1)).Sublist zs) : ∀ l ∈ c, l.1 ∈ ys := fun l hl => (G.zy _).mp (h.subset (List.mem_map.mpr ⟨l, hl, rfl⟩))
/-- under any facts the rule holds just where all told clauses do -/
theorem told_is (G : Given r ys zs L) (g : α → Bool) : (toldR r ys L).all (cHolds g) = r.ev g := by
  cases e : r.ev g with
  | true =>
    refine List.all_eq_true.mpr fun c hc => ?_
    exact (fol_iff (names_in G (told_names G hc))).mp (told_fol hc) g (by rw [ev_mk G]; exact e)
  | false =>
    cases q : (toldR r ys L).all (cHolds g) with
    | false => rfl
    | true =>
      exfalso
      have hall := List.all_eq_true.mp q
      let c : Cl α := zs.map fun n => (n, !(g n))
      have hcn : c.map (·.1) = zs := by
        show (zs.map fun n => (n, !(g n))).map (·.1) = zs
        rw [List.map_map]
        exact List.map_id'' (fun _ => rfl) zs
      have hcs : (c.map (·.1)).Sublist zs := by rw [hcn]; exact List.Sublist.refl _
      have hcL : c ∈ L := (G.lm c).mpr hcs
      have no : ∀ d : Cl α, (∀ l ∈ d, l ∈ c) → cHolds g d = false := fun d hd => by
        cases q : cHolds g d with
        | false => rfl
        | true =>
          obtain ⟨l, hl, e2⟩ := List.any_eq_true.mp q
          obtain ⟨n, _, rfl⟩ := List.mem_map.mp (hd l hl)
          have e3 : g n = !(g n) := by simpa using e2
          cases h : g n <;> rw [h] at e3 <;> cases e3
      have hf : folBy (rowsU r ys) c = true := (fol_iff (names_in G hcs)).mpr fun g' hg' => by
        rw [ev_mk G] at hg'
        cases q2 : cHolds g' c with
        | true => rfl
        | false =>
          exfalso
          have same : ∀ n ∈ r.names, g' n = g n := fun n hn => by
            have hz : n ∈ zs := (G.zy n).mpr (G.yn n hn)
            have hm : (n, !(g n)) ∈ c := List.mem_map.mpr ⟨n, hz, rfl⟩
            cases h1 : g' n with
            | true =>
              cases h2 : g n with
              | true => rfl
              | false =>
                have : cHolds g' c = true := List.any_eq_true.mpr ⟨_, hm, by simp [h1, h2]⟩
                rw [q2] at this
                cases this
            | false =>
              cases h2 : g n with
              | false => rfl
              | true =>
                have : cHolds g' c = true := List.any_eq_true.mpr ⟨_, hm, by simp [h1, h2]⟩
                rw [q2] at this
                cases this
          rw [R.ev_congr r same, e] at hg'
          cases hg'
      obtain ⟨t, ht, hp⟩ := told_cover hcL hf
      have h1 := hall t ht
      rw [no t (part_iff.mp hp)] at h1
      cases h1
/-- no told clause is a part of another one -/
theorem told_apart (G : Given r ys zs L) {i j : Nat} {a b : Cl α} (hi : (toldR r ys L)[i]? = some a) (hj : (toldR r ys L)[j]? = some b) (hne : i ≠ j) : part a b = false := by
  have P := told_pair (folBy (rowsU r ys)) L
  have LL : (toldR r ys L).Pairwise fun a b => a.length ≤ b.length := List.Pairwise.sublist (told_sub _ _) G.ll
  obtain ⟨h1, rfl⟩ := List.getElem?_eq_some_iff.mp hi
  obtain ⟨h2, rfl⟩ := List.getElem?_eq_some_iff.mp hj
  rcases Nat.lt_or_gt_of_ne hne with h | h
  · exact List.pairwise_iff_getElem.mp P i j h1 h2 h
  · have q := List.pairwise_iff_getElem.mp P j i h2 h1 h
    have l := List.pairwise_iff_getElem.mp LL j i h2 h1 h
    cases e : part (toldR r ys L)[i] (toldR r ys L)[j] with
    | false => rfl
    | true =>
      exfalso
      have nd : ((toldR r ys L)[i]).Nodup := nodup_of_names G.zn (told_names G (List.getElem_mem h1))
      have s := sub_full nd (part_iff.mp e) l
      rw [part_iff.mpr s] at q
      cases q
end
end KM
end
section
set_option maxHeartbeats 4000000
/-! the text by places: defs and their scopes -/
namespace K27
open PySem PySem.Spec PyProof.Rows L2
def topS (i : Nat) : Stmt := PySem.Challenge.pw_truceroll_k27_whole_rule_is_its_clauses.main.body.getD i (.Pass ⟨0, 0, 0, 0⟩)
abbrev sAllNamesIn : Stmt := topS 4
abbrev sNamesOf : Stmt := topS 5
abbrev sClausesInOrder : Stmt := topS 7
abbrev sIsClausePart : Stmt := topS 8
abbrev sHoldsUnder : Stmt := topS 10
abbrev sHolds : Stmt := topS 11
abbrev sAllFacts : Stmt := topS 12
abbrev sRowsUnder : Stmt := topS 14
abbrev sStandsIn : Stmt := topS 15
abbrev sClausesOver : Stmt := topS 16
abbrev sShortestOf : Stmt := topS 17
abbrev sLawHand : Stmt := topS 19
abbrev sLawNext : Stmt := topS 20
abbrev sLawTake : Stmt := topS 21
abbrev sLawDraw : Stmt := topS 22
abbrev sLawNames : Stmt := topS 23
abbrev sLawRule : Stmt := topS 24
abbrev sLawHolds : Stmt := topS 25
abbrev sLawNamesOf : Stmt := topS 26
abbrev sLawAllFacts : Stmt := topS 27
abbrev sLawIsClause : Stmt := topS 28
abbrev sLawStands : Stmt := topS 29
abbrev sLawInside : Stmt := topS 30
abbrev sLaw : Stmt := topS 31
abbrev nAllNamesIn : List Str := ["rule", "names", "part"]
abbrev nNamesOf : List Str := ["rule", "seen", "name"]
abbrev nClausesInOrder : List Str := ["clauses", "told", "clause"]
abbrev nIsClausePart : List Str := ["one", "other", "literal"]
abbrev nHoldsUnder : List Str := ["rule", "facts", "word", "one", "other"]
abbrev nHolds : List Str := ["rule", "facts", "name"]
abbrev nAllFacts : List Str := ["names", "rows", "name", "longer", "facts", "truth", "more"]
abbrev nRowsUnder : List Str := ["rule", "facts"]
abbrev nStandsIn : List Str := ["rows", "clause", "facts", "name", "truth"]
abbrev nClausesOver : List Str := ["names", "rows", "name", "more", "truth", "row"]
abbrev nShortestOf : List Str := ["rule", "rows", "told", "clause", "one"]
abbrev nLawHand : List Str := ["_law_script"]
abbrev nLawNext : List Str := ["_law_hand_here"]
abbrev nLawTake : List Str := ["_law_hand_here", "_law_cell"]
abbrev nLawDraw : List Str := ["_law_hand_here", "_law_many", "_law_got", "_law_value", "_law_size"]
abbrev nLawNames : List Str := ["_law_hand_here", "_law_many", "_law_letters", "_law_way", "_law_some", "_law_at", "_law_k", "_law_word", "_law_spot", "_law_start", "_law_names_here", "_law_sign", "_law_name"]
abbrev nLawRule : List Str := ["_law_hand_here", "_law_names_here", "_law_deep", "_law_way", "_law_one"]
abbrev nLawHolds : List Str := ["_law_rule_here", "_law_facts", "_law_word", "_law_one", "_law_other"]
abbrev nLawNamesOf : List Str := ["_law_rule_here", "_law_names_here", "_law_part", "_law_name"]
abbrev nLawAllFacts : List Str := ["_law_names_here", "_law_rows", "_law_name", "_law_more", "_law_row", "_law_truth", "_law_one"]
abbrev nLawIsClause : List Str := ["_law_thing", "_law_one", "_law_k"]
abbrev nLawStands : List Str := ["_law_clause", "_law_facts", "_law_name", "_law_truth"]
abbrev nLawInside : List Str := ["_law_one", "_law_other", "_law_literal"]
abbrev nLaw : List Str := ["_law_script", "_law_hand_here", "_law_names_here", "_law_rule_here", "_law_own", "_law_told", "_law_clause", "_law_k", "_law_j", "_law_facts", "_law_name", "_law_truth"]
theorem cAllNamesIn : FnScope ["rule", "names", "part"] ["rule"] (defScope sAllNamesIn) := ⟨rfl, rfl, rfl, by decide +kernel, rfl, by decide +kernel, by decide +kernel⟩
theorem cNamesOf : FnScope ["rule", "seen", "name"] ["rule"] (defScope sNamesOf) := ⟨rfl, rfl, rfl, by decide +kernel, rfl, by decide +kernel, by decide +kernel⟩
theorem cClausesInOrder : FnScope ["clauses", "told", "clause"] ["clauses"] (defScope sClausesInOrder) := ⟨rfl, rfl, rfl, by decide +kernel, rfl, by decide +kernel, by decide +kernel⟩
theorem cIsClausePart : FnScope ["one", "other", "literal"] ["one", "other"] (defScope sIsClausePart) := ⟨rfl, rfl, rfl, by decide +kernel, rfl, by decide +kernel, by decide +kernel⟩
theorem cHoldsUnder : FnScope ["rule", "facts", "word", "one", "other"] ["rule", "facts"] (defScope sHoldsUnder) := ⟨rfl, rfl, rfl, by decide +kernel, rfl, by decide +kernel, by decide +kernel⟩
theorem cHolds : FnScope ["rule", "facts", "name"] ["rule", "facts"] (defScope sHolds) := ⟨rfl, rfl, rfl, by decide +kernel, rfl, by decide +kernel, by decide +kernel⟩
theorem cAllFacts : FnScope ["names", "rows", "name", "longer", "facts", "truth", "more"] ["names"] (defScope sAllFacts) := ⟨rfl, rfl, rfl, by decide +kernel, rfl, by decide +kernel, by decide +kernel⟩
theorem cRowsUnder : FnScope ["rule", "facts"] ["rule"] (defScope sRowsUnder) := ⟨rfl, rfl, rfl, by decide +kernel, rfl, by decide +kernel, by decide +kernel⟩
theorem cStandsIn : FnScope ["rows", "clause", "facts", "name", "truth"] ["rows", "clause"] (defScope sStandsIn) := ⟨rfl, rfl, rfl, by decide +kernel, rfl, by decide +kernel, by decide +kernel⟩
theorem cClausesOver : FnScope ["names", "rows", "name", "more", "truth", "row"] ["names"] (defScope sClausesOver) := ⟨rfl, rfl, rfl, by decide +kernel, rfl, by decide +kernel, by decide +kernel⟩
theorem cShortestOf : FnScope ["rule", "rows", "told", "clause", "one"] ["rule"] (defScope sShortestOf) := ⟨rfl, rfl, rfl, by decide +kernel, rfl, by decide +kernel, by decide +kernel⟩
theorem cLawHand : FnScope ["_law_script"] ["_law_script"] (defScope sLawHand) := ⟨rfl, rfl, rfl, by decide +kernel, rfl, by decide +kernel, by decide +kernel⟩
theorem cLawNext : FnScope ["_law_hand_here"] ["_law_hand_here"] (defScope sLawNext) := ⟨rfl, rfl, rfl, by decide +kernel, rfl, by decide +kernel, by decide +kernel⟩
theorem cLawTake : FnScope ["_law_hand_here", "_law_cell"] ["_law_hand_here"] (defScope sLawTake) := ⟨rfl, rfl, rfl, by decide +kernel, rfl, by decide +kernel, by decide +kernel⟩
theorem cLawDraw : FnScope ["_law_hand_here", "_law_many", "_law_got", "_law_value", "_law_size"] ["_law_hand_here", "_law_many"] (defScope sLawDraw) := ⟨rfl, rfl, rfl, by decide +kernel, rfl, by decide +kernel, by decide +kernel⟩
theorem cLawNames : FnScope ["_law_hand_here", "_law_many", "_law_letters", "_law_way", "_law_some", "_law_at", "_law_k", "_law_word", "_law_spot", "_law_start", "_law_names_here", "_law_sign", "_law_name"] ["_law_hand_here", "_law_many"] (defScope sLawNames) := ⟨rfl, rfl, rfl, by decide +kernel, rfl, by decide +kernel, by decide +kernel⟩
theorem cLawRule : FnScope ["_law_hand_here", "_law_names_here", "_law_deep", "_law_way", "_law_one"] ["_law_hand_here", "_law_names_here", "_law_deep"] (defScope sLawRule) := ⟨rfl, rfl, rfl, by decide +kernel, rfl, by decide +kernel, by decide +kernel⟩
theorem cLawHolds : FnScope ["_law_rule_here", "_law_facts", "_law_word", "_law_one", "_law_other"] ["_law_rule_here", "_law_facts"] (defScope sLawHolds) := ⟨rfl, rfl, rfl, by decide +kernel, rfl, by decide +kernel, by decide +kernel⟩
theorem cLawNamesOf : FnScope ["_law_rule_here", "_law_names_here", "_law_part", "_law_name"] ["_law_rule_here"] (defScope sLawNamesOf) := ⟨rfl, rfl, rfl, by decide +kernel, rfl, by decide +kernel, by decide +kernel⟩
theorem cLawAllFacts : FnScope ["_law_names_here", "_law_rows", "_law_name", "_law_more", "_law_row", "_law_truth", "_law_one"] ["_law_names_here"] (defScope sLawAllFacts) := ⟨rfl, rfl, rfl, by decide +kernel, rfl, by decide +kernel, by decide +kernel⟩
theorem cLawIsClause : FnScope ["_law_thing", "_law_one", "_law_k"] ["_law_thing"] (defScope sLawIsClause) := ⟨rfl, rfl, rfl, by decide +kernel, rfl, by decide +kernel, by decide +kernel⟩
theorem cLawStands : FnScope ["_law_clause", "_law_facts", "_law_name", "_law_truth"] ["_law_clause", "_law_facts"] (defScope sLawStands) := ⟨rfl, rfl, rfl, by decide +kernel, rfl, by decide +kernel, by decide +kernel⟩
theorem cLawInside : FnScope ["_law_one", "_law_other", "_law_literal"] ["_law_one", "_law_other"] (defScope sLawInside) := ⟨rfl, rfl, rfl, by decide +kernel, rfl, by decide +kernel, by decide +kernel⟩
theorem cLaw : FnScope ["_law_script", "_law_hand_here", "_law_names_here", "_law_rule_here", "_law_own", "_law_told", "_law_clause", "_law_k", "_law_j", "_law_facts", "_law_name", "_law_truth"] ["_law_script"] (defScope sLaw) := ⟨rfl, rfl, rfl, by decide +kernel, rfl, by decide +kernel, by decide +kernel⟩
/-- a def of the text, of no defaults -/
abbrev FnP (K : PySem.W.Frag) (x : Str) (st : Stmt) (f : Addr) (fd : FuncData) : Prop := FunD K x x (defArgs st) (defBody st) (defScope st) [] [] f fd
end K27
end
section
set_option maxHeartbeats 0
/-! the head: facts by names, the run -/
namespace K27
open PySem PySem.Spec PyProof.Rows L2
def dAllNamesIn : He.DefD := ⟨("all_names_in", none), "all_names_in", "all_names_in", defArgs sAllNamesIn, defBody sAllNamesIn, defScope sAllNamesIn, [], []⟩
def dNamesOf : He.DefD := ⟨("names_of", none), "names_of", "names_of", defArgs sNamesOf, defBody sNamesOf, defScope sNamesOf, [], []⟩
def dClausesInOrder : He.DefD := ⟨("clauses_in_order", none), "clauses_in_order", "clauses_in_order", defArgs sClausesInOrder, defBody sClausesInOrder, defScope sClausesInOrder, [], []⟩
def dIsClausePart : He.DefD := ⟨("is_clause_part", none), "is_clause_part", "is_clause_part", defArgs sIsClausePart, defBody sIsClausePart, defScope sIsClausePart, [], []⟩
def dHoldsUnder : He.DefD := ⟨("holds_under", none), "holds_under", "holds_under", defArgs sHoldsUnder, defBody sHoldsUnder, defScope sHoldsUnder, [], []⟩
def dHolds : He.DefD := ⟨("holds", none), "holds", "holds", defArgs sHolds, defBody sHolds, defScope sHolds, [], []⟩
def dAllFacts : He.DefD := ⟨("all_facts", none), "all_facts", "all_facts", defArgs sAllFacts, defBody sAllFacts, defScope sAllFacts, [], []⟩
def dRowsUnder : He.DefD := ⟨("rows_under", none), "rows_under", "rows_under", defArgs sRowsUnder, defBody sRowsUnder, defScope sRowsUnder, [], []⟩
def dStandsIn : He.DefD := ⟨("stands_in", none), "stands_in", "stands_in", defArgs sStandsIn, defBody sStandsIn, defScope sStandsIn, [], []⟩
def dClausesOver : He.DefD := ⟨("clauses_over", none), "clauses_over", "clauses_over", defArgs sClausesOver, defBody sClausesOver, defScope sClausesOver, [], []⟩
def dShortestOf : He.DefD := ⟨("shortest_of", none), "shortest_of", "shortest_of", defArgs sShortestOf, defBody sShortestOf, defScope sShortestOf, [], []⟩
def dLawHand : He.DefD := ⟨("_law_hand", none), "_law_hand", "_law_hand", defArgs sLawHand, defBody sLawHand, defScope sLawHand, [], []⟩
def dLawNext : He.DefD := ⟨("_law_next", none), "_law_next", "_law_next", defArgs sLawNext, defBody sLawNext, defScope sLawNext, [], []⟩
def dLawTake : He.DefD := ⟨("_law_take", none), "_law_take", "_law_take", defArgs sLawTake, defBody sLawTake, defScope sLawTake, [], []⟩
def dLawDraw : He.DefD := ⟨("_law_draw", none), "_law_draw", "_law_draw", defArgs sLawDraw, defBody sLawDraw, defScope sLawDraw, [], []⟩
def dLawNames : He.DefD := ⟨("_law_names", none), "_law_names", "_law_names", defArgs sLawNames, defBody sLawNames, defScope sLawNames, [], []⟩
def dLawRule : He.DefD := ⟨("_law_rule", none), "_law_rule", "_law_rule", defArgs sLawRule, defBody sLawRule, defScope sLawRule, [], []⟩
def dLawHolds : He.DefD := ⟨("_law_holds", none), "_law_holds", "_law_holds", defArgs sLawHolds, defBody sLawHolds, defScope sLawHolds, [], []⟩
def dLawNamesOf : He.DefD := ⟨("_law_names_of", none), "_law_names_of", "_law_names_of", defArgs sLawNamesOf, defBody sLawNamesOf, defScope sLawNamesOf, [], []⟩
def dLawAllFacts : He.DefD := ⟨("_law_all_facts", none), "_law_all_facts", "_law_all_facts", defArgs sLawAllFacts, defBody sLawAllFacts, defScope sLawAllFacts, [], []⟩
def dLawIsClause : He.DefD := ⟨("_law_is_clause", none), "_law_is_clause", "_law_is_clause", defArgs sLawIsClause, defBody sLawIsClause, defScope sLawIsClause, [], []⟩
def dLawStands : He.DefD := ⟨("_law_stands", none), "_law_stands", "_law_stands", defArgs sLawStands, defBody sLawStands, defScope sLawStands, [], []⟩
def dLawInside : He.DefD := ⟨("_law_inside", none), "_law_inside", "_law_inside", defArgs sLawInside, defBody sLawInside, defScope sLawInside, [], []⟩
def dLaw : He.DefD := ⟨("law", none), "law", "law", defArgs sLaw, defBody sLaw, defScope sLaw, [], []⟩
def hFn : List He.DefD := [dAllNamesIn, dNamesOf, dClausesInOrder, dIsClausePart, dHoldsUnder, dHolds, dAllFacts, dRowsUnder, dStandsIn, dClausesOver, dShortestOf, dLawHand, dLawNext, dLawTake, dLawDraw, dLawNames, dLawRule, dLawHolds, dLawNamesOf, dLawAllFacts, dLawIsClause, dLawStands, dLawInside, dLaw]
def hFa : List He.Fa := [.glo "all_names_in", .glo "names_of", .glo "clauses_in_order", .glo "is_clause_part", .glo "holds_under", .glo "holds", .glo "all_facts", .glo "rows_under", .glo "stands_in", .glo "clauses_over", .glo "shortest_of", .glo "_law_hand", .glo "_law_next", .glo "_law_take", .glo "_law_draw", .glo "_law_names", .glo "_law_rule", .glo "_law_holds", .glo "_law_names_of", .glo "_law_all_facts", .glo "_law_is_clause", .glo "_law_stands", .glo "_law_inside", .glo "law", .free "len", .free "abs", .free "sorted", .free "range", .free "isinstance", .free "tuple", .free "str", .free "bool", .free "list", .free "dict", .free "any", .free "all"]
def hTf : List He.Defn := [("clauses_in_order", none)]
abbrev hR : PySem.W.OpenRow := PySem.W.OpenLaw.row PySem.Challenge.rw_truceroll_k27_whole_rule_is_its_clauses
abbrev hK : PySem.W.Hook := He.hookX 4 hFa hFn [] hTf (fun _ => true)
def hOb (s : PySem.W.SharedT) : He.AlX := He.obsX 4 hFa hFn [] hTf (fun _ => true) (HandSHeadRun.getT s)
theorem hOb_eq (s : PySem.W.SharedT) : hOb s = hK.obs s.abs := He.obsX_eq (HandSHeadRun.getT_eq s)
def hLoose : List PySem.Str := ["TruceError", "NoFact", "all_names_in", "names_of", "clauses_in_order", "is_clause_part", "holds_under", "holds", "all_facts", "rows_under", "stands_in", "clauses_over", "shortest_of", "_law_hand", "_law_next", "_law_take", "_law_draw", "_law_names", "_law_rule", "_law_holds", "_law_names_of", "_law_all_facts", "_law_is_clause", "_law_stands", "_law_inside"]
theorem hRun (w : World) : HandSHeadRun.RunEq hR (PySem.W.view hR.prog [31]) hK hOb 4000 hLoose w := by
  intro os
  kernel_rfl
end K27
end
section
set_option maxHeartbeats 4000000
/-! data over the heap: literals, clauses, rules, facts; rules of the layer's kind that it lacks -/
namespace K27
open PySem PySem.Spec PyProof.Rows L2
abbrev Cl := KM.Cl Str
abbrev Lit := Str × Bool
abbrev Rl := KM.R Str
def opn : KM.O → Str
  | .and => "and"
  | .or => "or"
  | .thn => "then"
  | .same => "same"
/-! ### what stands where -/
def LitAt (H : Hp) (a : Addr) (l : Lit) : Prop := H a = some (.tup [.str l.1, .bl l.2])
def ClAt (H : Hp) (a : Addr) (c : Cl) : Prop := ∃ ls : List Addr, H a = some (.tup (ls.map V.ref)) ∧ Paired (LitAt H) ls c
def RuleAt (H : Hp) : Rl → Addr → Prop
  | .cst b, a => H a = some (.tup [.str (if b then "yes" else "no")])
  | .is n, a => H a = some (.tup [.str "is", .str n])
  | .neg r, a => ∃ b, H a = some (.tup [.str "not", .ref b]) ∧ RuleAt H r b
  | .bin o r s, a => ∃ b c, H a = some (.tup [.str (opn o), .ref b, .ref c]) ∧ RuleAt H r b ∧ RuleAt H s c
def kvs (f : List Lit) : List (Key × V) := f.map fun p => (Sum.inr p.1, V.bl p.2)
def FactsAt (H : Hp) (a : Addr) (f : List Lit) : Prop := H a = some (.dK (kvs f))
/-- all tuples stay -/
def TupsStay (H H' : Hp) : Prop := ∀ b xs, H b = some (.tup xs) → H' b = some (.tup xs)
theorem Same.tups {H H' : Hp} (e : Same H H') : TupsStay H H' := fun b xs h => e b _ h
theorem ExtN.tups {H H' : Hp} (e : LamX.ExtN H H') : TupsStay H H' := fun b xs h => e b _ h fun ps z => by cases z
theorem LitAt.stay {H H' : Hp} (e : TupsStay H H') {a : Addr} {l : Lit} (h : LitAt H a l) : LitAt H' a l := e _ _ h
theorem ClAt.stay {H H' : Hp} (e : TupsStay H H') {a : Addr} {c : Cl} (h : ClAt H a c) : ClAt H' a c := by
  obtain ⟨ls, h1, h2⟩ := h
  exact ⟨ls, e _ _ h1, Paired.mapP h2 fun _ _ q => q.stay e⟩
theorem RuleAt.stay {H H' : Hp} (e : TupsStay H H') : ∀ {r : Rl} {a : Addr}, RuleAt H r a → RuleAt H' r a
  | .cst b, a, h => e _ _ h
  | .is n, a, h => e _ _ h
  | .neg r, a, ⟨b, h1, h2⟩ => ⟨b, e _ _ h1, RuleAt.stay e h2⟩
  | .bin o r s, a, ⟨b, c, h1, h2, h3⟩ => ⟨b, c, e _ _ h1, RuleAt.stay e h2, RuleAt.stay e h3⟩
theorem Paired.len {α β : Type} {F : α → β → Prop} : ∀ {l : List α} {m : List β}, Paired F l m → l.length = m.length
  | _, _, .nil => rfl
  | _, _, .cons _ t => congrArg (· + 1) (Paired.len t)
theorem Paired.at_ {α β : Type} {F : α → β → Prop} : ∀ {l : List α} {m : List β} {i : Nat} {b : β}, Paired F l m → m[i]? = some b → ∃ a, l[i]? = some a ∧ F a b
  | _, _, _, _, .nil, h => by simp at h
  | _, _, 0, b, .cons r t, h => by
    have e := Option.some.inj (show some _ = some b from h)
    subst e
    exact ⟨_, rfl, r⟩
  | _, _, i + 1, b, .cons r t, h => Paired.at_ (i := i) t h
theorem Paired.atL {α β : Type} {F : α → β → Prop} : ∀ {l : List α} {m : List β} {i : Nat} {a : α}, Paired F l m → l[i]? = some a → ∃ b, m[i]? = some b ∧ F a b
  | _, _, _, _, .nil, h => by simp at h
  | _, _, 0, b, .cons r t, h => by
    have e := Option.some.inj (show some _ = some b from h)
    subst e
    exact ⟨_, rfl, r⟩
  | _, _, i + 1, b, .cons r t, h => Paired.atL (i := i) t h
theorem Paired.app {α β : Type} {F : α → β → Prop} : ∀ {l l' : List α} {m m' : List β}, Paired F l m → Paired F l' m' → Paired F (l ++ l') (m ++ m')
  | _, _, _, _, .nil, h => h
  | _, _, _, _, .cons r t, h => .cons r (Paired.app t h)
theorem Paired.tk {α β : Type} {F : α → β → Prop} : ∀ {l : List α} {m : List β} (n : Nat), Paired F l m → Paired F (l.take n) (m.take n)
  | _, _, 0, _ => .nil
  | _, _, _ + 1, .nil => .nil
  | _, _, n + 1, .cons r t => .cons r (Paired.tk n t)

/-! ### clauses as data -/
def litD (l : Lit) : PyData := .tuple [.str l.1, .bool l.2]
def clD (c : Cl) : PyData := .tuple (c.map litD)
theorem lit_dp {K : PySem.W.Frag} {H : Hp} {a : Addr} {l : Lit} (h : LitAt H a l) : Dp K H (.ref a) (litD l) := .tup (SqT.of h) (.cons (.str _) (.cons (.bl _) .nil))
theorem lits_dp {K : PySem.W.Frag} {H : Hp} : ∀ {ls : List Addr} {c : Cl}, Paired (LitAt H) ls c → DpAll K H (ls.map V.ref) (c.map litD)
  | _, _, .nil => .nil
  | _, _, .cons r t => .cons (lit_dp r) (lits_dp t)
theorem cl_dp {K : PySem.W.Frag} {H : Hp} {a : Addr} {c : Cl} (h : ClAt H a c) : Dp K H (.ref a) (clD c) := by
  obtain ⟨ls, h1, h2⟩ := h
  exact .tup (SqT.of h1) (lits_dp h2)
def LitsOk (c : Cl) : Prop := ∀ l ∈ c, PyData.strOk l.1 = true
theorem lit_lay {l : Lit} (h : PyData.strOk l.1 = true) : (litD l).canLay0 = true := by simp [litD, PyData.canLay0, PyData.canLayAll0, h]
theorem lits_lay : ∀ {c : Cl}, LitsOk c → PyData.canLayAll0 (c.map litD) = true
  | [], _ => by simp [PyData.canLayAll0]
  | l :: c, h => by
    have h1 := lit_lay (h l (by simp))
    have h2 := lits_lay (c := c) fun x hx => h x (by simp [hx])
    simp [PyData.canLayAll0, h1, h2]
theorem lit_depth (l : Lit) : (litD l).depth = 1 := by simp [litD, PyData.depth, PyData.depthAll]
theorem lits_depth : ∀ c : Cl, PyData.depthAll (c.map litD) ≤ 1
  | [] => by simp [PyData.depthAll]
  | l :: c => by
    have h1 := lit_depth l
    have h2 := lits_depth c
    simp only [List.map_cons, PyData.depthAll]
    omega
theorem cl_depth (c : Cl) : (clD c).depth ≤ 2 := by
  have h := lits_depth c
  simp only [clD, PyData.depth]
  omega
theorem lit_shaped {l : Lit} (h : PyData.strOk l.1 = true) : SeqAt.shaped (litD l) = true := by
  have h1 := lit_depth l
  show ((litD l).canLay0 && decide ((litD l).depth ≤ 64)) = true
  rw [Bool.and_eq_true]
  exact ⟨lit_lay h, decide_eq_true (by omega)⟩
theorem cl_shaped {c : Cl} (h : LitsOk c) : SeqAt.shaped (clD c) = true := by
  have h1 := cl_depth c
  show ((clD c).canLay0 && decide ((clD c).depth ≤ 64)) = true
  rw [Bool.and_eq_true]
  exact ⟨by simp only [clD, PyData.canLay0]; exact lits_lay h, decide_eq_true (by omega)⟩
theorem lit_eqv (l m : Lit) : PyData.eqv (litD l) (litD m) = decide (l = m) := by
  obtain ⟨a, b⟩ := l
  obtain ⟨a', b'⟩ := m
  have e : PyData.eqv (litD (a, b)) (litD (a', b')) = ((a == a') && ((b == b') && true)) := by simp only [litD, PyData.eqv, PyData.eqvAll]
  rw [e]
  by_cases h1 : a = a'
  · subst h1
    by_cases h2 : b = b'
    · subst h2
      simp
    · have q : (b == b') = false := beq_eq_false_iff_ne.mpr h2
      have q2 : ¬ (a, b) = (a, b') := fun z => h2 (Prod.mk.inj z).2
      rw [q, decide_eq_false q2]
      simp
  · have q : (a == a') = false := beq_eq_false_iff_ne.mpr h1
    have q2 : ¬ (a, b) = (a', b') := fun z => h1 (Prod.mk.inj z).1
    rw [q, decide_eq_false q2]
    simp
theorem lits_eqv : ∀ c d : Cl, PyData.eqvAll (c.map litD) (d.map litD) = decide (c = d)
  | [], [] => by simp [PyData.eqvAll]
  | [], _ :: _ => by simp [PyData.eqvAll]
  | _ :: _, [] => by simp [PyData.eqvAll]
  | l :: c, m :: d => by
    simp only [List.map_cons, PyData.eqvAll]
    rw [lit_eqv, lits_eqv c d]
    by_cases h1 : l = m
    · by_cases h2 : c = d
      · simp [h1, h2]
      · simp [h1, h2]
    · simp [h1]
theorem cl_eqv (c d : Cl) : PyData.eqv (clD c) (clD d) = decide (c = d) := by
  simp only [clD, PyData.eqv]
  exact lits_eqv c d
theorem any_eqv (c : Cl) (l : Lit) : ((c.map litD).any fun z => PyData.eqv z (litD l)) = decide (l ∈ c) := by
  rw [List.any_map]
  induction c with
  | nil => simp
  | cons m c ih =>
    rw [List.any_cons, ih]
    show (PyData.eqv (litD m) (litD l) || _) = _
    rw [lit_eqv]
    by_cases h1 : m = l
    · subst h1
      simp
    · by_cases h2 : l ∈ c
      · simp [h1, h2]
      · have h3 : ¬ l = m := fun e => h1 e.symm
        simp [h1, h2, h3]

/-! ### literal in clause -/
def rInT (K : PySem.W.Frag) (neg : Bool) : R2 := fun x y H Q => ∃ a l b c, x = .ref a ∧ y = .ref b ∧ LitAt H a l ∧ ClAt H b c ∧ PyData.strOk l.1 = true ∧ LitsOk c ∧ Q (.bl (if neg then !decide (l ∈ c) else decide (l ∈ c))) H
section
variable {X : Cx}
theorem op_inT (hu : X.A.units + 65 < cLine) : OpR X (compareOp .In) (rInT X.K false) := by
  intro pins s σ H x y v u Q I rx ry h
  obtain ⟨a, l, b, c, rfl, rfl, hl, hc, sl, sc, q⟩ := h
  obtain ⟨as, r1⟩ := Dp.reads I _ _ v (lit_dp hl) rx
  obtain ⟨bs, r2⟩ := Dp.reads I _ _ u (cl_dp hc) ry
  refine SeqAt.in_tuple_reads r2 r1 (lits_lay sc) (lit_lay sl) (PyProof.Rows.room_in_shaped (lit_shaped sl) hu) ⟨.bl _, H, I, rfl, ?_⟩
  rw [any_eqv]
  exact q
theorem op_notInT (hu : X.A.units + 65 < cLine) : OpR X (compareOp .NotIn) (rInT X.K true) := by
  intro pins s σ H x y v u Q I rx ry h
  obtain ⟨a, l, b, c, rfl, rfl, hl, hc, sl, sc, q⟩ := h
  obtain ⟨as, r1⟩ := Dp.reads I _ _ v (lit_dp hl) rx
  obtain ⟨bs, r2⟩ := Dp.reads I _ _ u (cl_dp hc) ry
  refine SeqAt.notIn_tuple_reads r2 r1 (lits_lay sc) (lit_lay sl) (PyProof.Rows.room_in_shaped (lit_shaped sl) hu) ⟨.bl _, H, I, rfl, ?_⟩
  rw [any_eqv]
  exact q
/-! ### xs[i] op= e -/
def rGetL (K : PySem.W.Frag) : V → V → Hp → VK → Prop := fun o i H Q => ∃ p xs k v, o = .ref p ∧ i = .int k ∧ SqL K H p xs ∧ 0 ≤ k ∧ xs[k.toNat]? = some v ∧ Q v H
theorem get_list : PGet X (rGetL X.K) := by
  intro pins s σ H o i ov iv Q I ro ri h
  obtain ⟨p, xs, k, v, rfl, rfl, hq, h0, he, q⟩ := h
  cases ro
  obtain ⟨t, rfl⟩ := ri
  obtain ⟨its, r, pl, hz⟩ := I.list hq
  obtain ⟨w, ew, rw'⟩ := r.get he
  have hl := r.length
  have hn := line63
  have hlt : k.toNat < xs.length := (List.getElem?_eq_some_iff.mp he).1
  exact wpAny_getItem_list pl.isList h0 (by omega) (by simpa using ew) ⟨v, H, I, rw', q⟩
end
end K27
end
section
set_option maxHeartbeats 4000000
/-! sorted(clauses, key=lambda clause: (len(clause), clause)) -/
namespace K27
open PySem PySem.Spec PyProof.Rows L2 PySem.W
/-! ### the lambda's call -/
section
variable {prog : Program} {w : World} {A : Around} {s : Shared}
theorem lam_call {f c' t : Addr} {qual : Str} {params : Arguments} {scope : Scope} {pm ctv : Value} {its : List Value} {d : PyData} {mg mb : Str → Option Value} {x : Str} {p1 p2 p3 p4 p5 : Pos} {kk : Nat} {as : List Addr} {cl : List (Str × Addr)}
    (hg : s.heap.Ns mainGlobals mg) (hml : mg "len" = none) (hb : s.heap.Ns builtinsNs mb) (hbl : mb "len" = some (.builtin "len")) (hlim : s.heap.NoLimit) (hroom : A.depth < recursionLimit)
    (hf : s.heap.get? f = some (kla_obj "<lambda>" qual params (.Tuple [.Call (.Name "len" p1) [.Name x p2] [] p3, .Name x p4] kk p5) scope cl pm c' ctv)) (hcd : s.heap.CodeRec (.ref c') qual)
    (hco : scope.isCoroutine = false) (hgen : scope.isGenerator = false) (hk : scope.kind = .function) (hcell : ∀ y ∈ scope.names, y.2 ≠ .cell) (hx : scope.names.lookup x = some .local) (hlen : scope.names.lookup ("len" : Str) = some .globalImplicit)
    (hbind : ∀ v : Value, bindArgs (kla_fn "<lambda>" qual params (.Tuple [.Call (.Name "len" p1) [.Name x p2] [] p3, .Name x p4] kk p5) scope cl pm (.ref c') ctv) ⟨[v], []⟩ = pure [(x, v)])
    (ht : IsTup s.heap t its.toArray) (hr : Reads s.heap (.ref t) d as) (has : as = []) (hz : its.length ≤ sizeLine) (hd : (x == ("__debug__" : Str)) = false := by decide) :
    wpAny (model prog w) A (call (.ref f) [.ref t]) (KeyPure (.tuple [.int its.length, d]) s) (fun _ _ => False) s := by
  subst has
  refine wpAny_call ?_
  refine kla_callFunE hroom hf rfl hco hgen rfl hcd ?_
  rw [hbind]
  refine wpAny_pure (wpAny_newFunctionEnv hcell (fun y hy => ?_) (fun h₁ hns hsb => ⟨hlim.fresh _ hsb, ?_⟩) hk)
  · have e : y = (x, .ref t) := by simpa using hy
    rw [e]
    exact hx
  have kp : ∀ b o, s.heap.get? b = some o → h₁.get? b = some o := fun b o e => hsb.extBut b o (Nat.ne_of_lt (Heap.lt_size e)) (Heap.get?_push_of_some _ e)
  have hxm : ∀ y : Str, ([(x, Value.ref t)] : List (Str × Value)).reverse.lookup y = if y = x then some (.ref t) else none := fun y => by
    show List.lookup y [(x, Value.ref t)] = _
    rw [List.lookup_cons]
    by_cases e : y = x
    · subst e
      simp
    · rw [beq_eq_false_iff_ne.mpr e, if_neg e]
      rfl
  show codeAny _ _ (.expr _ (envX qual scope s.heap.objs.size f (.ref c') cl)) _ _
  refine kla_codeExpr ?_
  have key : wpAny (model prog w) (A.deeper (envX qual scope s.heap.objs.size f (.ref c') cl)) (eval (.Tuple [.Call (.Name "len" p1) [.Name x p2] [] p3, .Name x p4] kk p5) (envX qual scope s.heap.objs.size f (.ref c') cl))
      (fun v s' => KeyPure (.tuple [.int its.length, d]) s v s') (fun _ _ => False) { s with heap := h₁, toks := s.toks + ([(x, Value.ref t)] : List (Str × Value)).length } := by
    refine wpAny_Tuple_spliced ?_
    refine Calls.spliced_cons ?_
    refine wpAny_Call_Name_kw ?_
    refine Calls.Name_function_global hk hlen (Calls.loadGlobal_builtin (hg.keeps kp) hml (hb.keeps kp) hbl ?_)
    refine PyProof.Rows.callWith_builtin1 (e := .Name x p2) (rest := []) ?_
    refine Calls.spliced_cons (wpAny_Name (wpAny_loadName_local (env := envX qual scope s.heap.objs.size f (.ref c') cl) (m := fun y => ([(x, Value.ref t)] : List (Str × Value)).reverse.lookup y) (v := .ref t) hk hx hns ((hxm x).trans (if_pos rfl)) ?_) hd)
    refine Calls.spliced_nil ?_
    have hn := line63
    refine len_tuple (ht.keeps kp) (by simp only [List.size_toArray] <;> omega) ?_
    refine Calls.spliced_cons ?_
    refine wpAny_Name (wpAny_loadName_local (env := envX qual scope s.heap.objs.size f (.ref c') cl) (m := fun y => ([(x, Value.ref t)] : List (Str × Value)).reverse.lookup y) (v := .ref t) hk hx hns ((hxm x).trans (if_pos rfl)) ?_) hd
    refine Calls.spliced_nil ?_
    refine ⟨by show 2 ≤ sizeLine; decide, ?_⟩
    refine ⟨_, _, rfl, fun b o e => Heap.get?_push_of_some _ (kp b o e), ?_⟩
    have r1 : Reads (h₁.push { cls := .type "tuple", data := .seq ([Value.int (its.toArray.size : Int) (s.toks + 1 + 1), .ref t] : List Value).toArray }) (.ref t) d [] := PyProof.Rows.Reads.keeps (fun b o e => Heap.get?_push_of_some _ (kp b o e)) hr
    have r2 := Reads.tuple (h := h₁.push { cls := .type "tuple", data := .seq ([Value.int (its.toArray.size : Int) (s.toks + 1 + 1), .ref t] : List Value).toArray }) (a := h₁.objs.size) (as := []) (Heap.get?_push_size _ rfl) rfl rfl (.cons (.int _ _) (.cons r1 .nil))
    rw [List.size_toArray] at r2
    exact r2
  exact wpAny_mono key (fun v s' h' => h') fun _ _ z => z.elim
end
/-! ### the keys: their order -/
def keyD (x : Addr × Cl) : PyData := .tuple [.int x.2.length, clD x.2]
theorem lits_alike : ∀ c d : Cl, alikeAll (c.map litD) (d.map litD) = true
  | [], _ => by simp [alikeAll]
  | _ :: _, [] => by simp [alikeAll]
  | l :: c, m :: d => by
    simp only [List.map_cons, alikeAll]
    rw [lits_alike c d]
    simp [alike, alikeAll, litD]
theorem key_alike (x y : Addr × Cl) : alike (keyD x) (keyD y) = true := by
  simp only [keyD, alike, alikeAll, clD]
  rw [lits_alike]
  rfl
theorem key_depth (x : Addr × Cl) : (keyD x).depth ≤ 3 := by
  have h := cl_depth x.2
  simp only [keyD, PyData.depth, PyData.depthAll]
  omega
theorem key_len {x y : Addr × Cl} (h : dataLe false keyD x y = true) : x.2.length ≤ y.2.length := by
  rw [dataLe_eq] at h
  have h : (!dataLt (keyD y) (keyD x)) = true := h
  by_cases e : x.2.length ≤ y.2.length
  · exact e
  · exfalso
    have hl : alike (.int (y.2.length : Int)) (.int (x.2.length : Int)) = true := by simp [alike]
    have hc : alike (clD y.2) (clD x.2) = true := by
      simp only [clD, alike]
      exact lits_alike _ _
    have z : dataLt (keyD y) (keyD x) = true := by
      unfold keyD
      rw [dataLt_pair hl hc]
      have ne : PyData.eqv (.int (y.2.length : Int)) (.int (x.2.length : Int)) = false := by
        simp only [PyData.eqv]
        exact beq_eq_false_iff_ne.mpr (by omega)
      rw [if_neg (by rw [ne]; exact Bool.false_ne_true), dataLt_int]
      exact decide_eq_true (by omega)
    rw [z] at h
    cases h
theorem key_sorted (bs : List (Addr × Cl)) : (bs.mergeSort (dataLe false keyD)).Pairwise fun x y => x.2.length ≤ y.2.length :=
  (sort_pairwise (sortLe_total (PyProof.Rows.listOrd itemOrd) false fun b => keyToks (keyD b)) bs).imp fun h => key_len h
/-! ### the items -/
def RCl (H : Hp) (v : Value) (x : Addr × Cl) : Prop := v = .ref x.1 ∧ ClAt H x.1 x.2
theorem each_of {H : Hp} : ∀ {as : List Addr} {cs : List Cl} {its : List Value}, Paired (ClAt H) as cs → Vals (as.map V.ref) its → EachIs (RCl H) its (as.zip cs)
  | _, _, _, .nil, r => by
    have r : Vals [] _ := r
    cases r
    exact .nil
  | a :: as, c :: cs, _, .cons h t, r => by
    have r : Vals (V.ref a :: as.map V.ref) _ := r
    cases r with
    | cons r1 r2 => exact .cons ⟨r1, h⟩ (each_of t r2)
theorem of_each {H : Hp} : ∀ {bs : List (Addr × Cl)} {out : List Value}, EachIs (RCl H) out bs → Vals ((bs.map (·.1)).map V.ref) out ∧ Paired (ClAt H) (bs.map (·.1)) (bs.map (·.2))
  | _, _, .nil => ⟨.nil, .nil⟩
  | _, _, .cons ⟨h1, h2⟩ t => ⟨.cons h1 (of_each t).1, .cons h2 (of_each t).2⟩
def tSortL (K : PySem.W.Frag) (T : List (Addr × Str)) (te : TE) : TE := fun σ H Q => te σ H fun x H1 => ∃ (a : Addr) (as : List Addr) (cs : List Cl), x = .ref a ∧ SqL K H1 a (as.map V.ref) ∧ Paired (ClAt H1) as cs ∧ LamX.Tabs T H1 ∧
  ∀ (H2 : Hp) (p : Addr) (as' : List Addr) (cs' : List Cl), LamX.ExtN H1 H2 → LamX.Tabs T H2 → H2 p = none → Paired (ClAt H2) as' cs' → cs'.Perm cs → (cs'.Pairwise fun x y => x.length ≤ y.length) → as'.length ≤ sizeLine → Q (.ref p) (upd H2 p (.lst (as'.map V.ref)))
theorem codeO_rec {P : Program} {w : World} {H : Hp} {h : Heap} {c : Addr} {q : Str} (hok : HOk P w H h) (e : H c = some (LamX.CodeO c q)) : h.CodeRec (.ref c) q := by
  obtain ⟨⟨oc, vs, t, h1, h2, h3⟩, _, _⟩ := hok c _ e
  exact ⟨c, oc, vs, t, rfl, h1, h2, h3⟩
theorem lit_reads {h : Heap} {v : Value} {l : Lit} {as : List Addr} (r : Reads h v (litD l) as) : as = [] := by
  unfold litD at r
  cases r with
  | @tuple _ _ vs _ _ _ h1 h2 h3 h4 =>
    generalize vs.toList = us at h4
    cases h4 with
    | cons a b =>
      cases a
      cases b with
      | cons c d =>
        cases c
        cases d
        rfl
theorem lits_reads {h : Heap} : ∀ {c : Cl} {vs : List Value} {as : List Addr}, ReadsAll h vs (c.map litD) as → as = []
  | [], _, _, r => by
    have r : ReadsAll h _ [] _ := r
    cases r
    rfl
  | l :: c, _, _, r => by
    have r : ReadsAll h _ (litD l :: c.map litD) _ := r
    cases r with
    | cons a b => rw [lit_reads a, lits_reads b] <;> rfl
theorem cl_reads {h : Heap} {v : Value} {c : Cl} {as : List Addr} (r : Reads h v (clD c) as) : as = [] := by
  unfold clD at r
  cases r with
  | tuple h1 h2 h3 h4 => exact lits_reads h4
section
variable {X : Cx} {y : Str} {py : Pos} {te : TE} {T : List (Addr × Str)} {c P : Addr} {k : Nat}
theorem pe_sortL {params : Arguments} {scope : Scope} {x : Str} {p p1 p2 p3 p4 p5 lpos kpos pos : Pos} {kk : Nat} (hr : Room (k + 2) X.A) (TB : LamX.TabB X.base X.mg c P) (hcode : X.env.code = .ref c) (hmT : (P, X.env.qual ++ "<lambda>") ∈ T) (hu : ∀ p ∈ T, p.1 = P → p.2 = X.env.qual ++ "<lambda>")
    (hg : Gl X "sorted") (hm : X.mg "sorted" = none) (hml : X.mg "len" = none) (he : PE X (.Name y py) te)
    (hdef : defaultsOf params X.env = ([], [])) (hco : scope.isCoroutine = false) (hgen : scope.isGenerator = false) (hk : scope.kind = .function) (hcell : ∀ y ∈ scope.names, y.2 ≠ .cell) (hfree : ∀ y ∈ scope.names, y.2 ≠ .free) (hx : scope.names.lookup x = some .local) (hlen : scope.names.lookup ("len" : Str) = some .globalImplicit)
    (hbind : ∀ (q : Str) (cl : List (Str × Addr)) (pm cv ctv v : Value), bindArgs (kla_fn "<lambda>" q params (.Tuple [.Call (.Name "len" p1) [.Name x p2] [] p3, .Name x p4] kk p5) scope cl pm cv ctv) ⟨[v], []⟩ = pure [(x, v)])
    (hd : (x == ("__debug__" : Str)) = false := by decide) :
    PE X (.Call (.Name "sorted" p) [.Name y py] [⟨some "key", .Lambda params (.Tuple [.Call (.Name "len" p1) [.Name x p2] [] p3, .Name x p4] kk p5) scope lpos, kpos⟩] pos) (tSortL X.K T te) := by
  refine ⟨fun pins s σ H Q I h => ?_⟩
  refine wpAny_Call_Name_kw (ld_blt I hg hm (by decide +kernel : bootBuiltins ("sorted" : Str) = some (.builtin "sorted")) ?_)
  refine PyProof.Rows.callWith_kw ?_
  refine Calls.spliced_cons (thn (he.run pins s σ H _ I h) fun u s1 ⟨xv, H1, I1, r1, q1⟩ => Calls.spliced_nil ?_)
  obtain ⟨a, as, cs, e1, hs, hp, hT, q⟩ := q1
  subst e1
  cases r1
  show wpAny _ _ (evalAll ((do let v ← eval (.Lambda params (.Tuple [.Call (.Name "len" p1) [.Name x p2] [] p3, .Name x p4] kk p5) scope lpos) X.env; standAt pos; pure v) :: [])) _ _ s1
  refine wpAny_evalAll_cons (wpAny_bind (LamX.lam_make2 I1 TB hcode hmT hu hT hdef (fun z hz e => absurd e (hfree z hz)) fun f c' pm ctv H2 s2 I2 eN T2 hf hfn hfr hco2 => wpAny_bind (wpAny_standAt (wpAny_pure (wpAny_evalAll_nil ?_)))))
  show wpAny _ _ (call (.builtin "sorted") [.ref a] [(Str.ofString "key", .ref f)]) _ _ s2
  have hs2 : SqL X.K H2 a (as.map V.ref) := by
    rcases hs with (hs | ⟨o, hs⟩) | hs
    · exact .inl (.inl (eN _ _ hs fun ps z => by cases z))
    · exact .inl (.inr ⟨o, eN _ _ hs fun ps z => by cases z⟩)
    · exact .inr hs
  have hp2 : Paired (ClAt H2) as cs := Paired.mapP hp fun _ _ z => z.stay (ExtN.tups eN)
  obtain ⟨its, rv, pl, hz⟩ := I2.list hs2
  have hac : as.length = cs.length := Paired.len hp
  rw [List.length_map] at hz
  have hbl : (as.zip cs).length = as.length := by
    rw [List.length_zip]
    omega
  obtain ⟨mb, hb1, hb2⟩ := I2.mod.blt
  have e2 := each_of hp2 rv
  refine sorted_key_data (β := Addr × Cl) (bs := as.zip cs) (R := RCl H2) (b := false) keyD pl.isList e2 (AllAlike.of fun x y => key_alike x y) (Sortable.tuples fun x => ⟨_, _, rfl⟩) (by rw [hbl]; exact hz) (fun z _ => ?_) (ksk_s1 _ _) (fun _ => ksk_l1 _ _) (fun _ => ksk_t1 _ _) (fun v z hR hz' h tk kp => ?_) fun out ct h' tk kp fresh hD hlo eo => ?_
  · have h1 := key_depth z
    have h2 := hr.units
    omega
  · obtain ⟨rfl, hcl⟩ := hR
    have I3 : Inv X pins σ H2 { s2 with heap := h, toks := tk } := I2.kept kp
    obtain ⟨ls, g1, g2⟩ := hcl
    obtain ⟨its2, rv2, pl2, hz2⟩ := I3.tuple (SqT.of g1)
    obtain ⟨as2, rd⟩ := Dp.reads I3 (clD z.2) (.ref z.1) (.ref z.1) (cl_dp ⟨ls, g1, g2⟩) rfl
    have hlen2 : its2.length = z.2.length := by
      have h1 := rv2.length
      rw [List.length_map] at h1
      rw [← h1]
      exact Paired.len g2
    have has : as2 = [] := cl_reads rd
    have zz := lam_call (A := X.A.in1.in1) (prog := X.prog) (w := X.w) (x := x) (I3.mod.glob.keeps I3.bk) hml (hb1.keeps I3.bk) ((hb2 "len" (by decide)).trans PySem.boot_len) I3.nolimit hr.in1.in1.depth (kp _ _ hf) (codeO_rec I3.hok hco2) hco hgen hk hcell hx hlen (fun v => hbind _ _ _ _ _ v) pl2 rd has (by rw [← rv2.length]; exact hz2) hd
    rw [hlen2] at zz
    exact zz
  · obtain ⟨k1, k2⟩ := of_each eo
    have hperm : ((as.zip cs).mergeSort (dataLe false keyD)).Perm (as.zip cs) := List.mergeSort_perm _ _
    have hL : (((as.zip cs).mergeSort (dataLe false keyD)).map (·.1)).length ≤ sizeLine := by
      rw [List.length_map, hperm.length_eq, hbl]
      exact hz
    have nw : s2.heap.objs.size ≤ s2.heap.objs.size + 1 := Nat.le_succ _
    refine ⟨.ref (s2.heap.objs.size + 1), upd H2 (s2.heap.objs.size + 1) (.lst ((((as.zip cs).mergeSort (dataLe false keyD)).map (·.1)).map V.ref)), I2.laid (t' := tk) kp nw ⟨by rw [List.length_map]; exact hL, out, ct, k1, hD⟩, rfl, ?_⟩
    refine q H2 (s2.heap.objs.size + 1) _ (((as.zip cs).mergeSort (dataLe false keyD)).map (·.2)) eN T2 (I2.hok.fresh nw) k2 ?_ ?_ hL
    · have h1 := hperm.map (·.2)
      rw [show (as.zip cs).map (·.2) = cs from List.map_snd_zip (by omega)] at h1
      exact h1
    · exact List.pairwise_map.mpr (key_sorted (as.zip cs))
end
end K27
end
section
set_option maxHeartbeats 4000000
/-! the law's own draws -/
namespace K27
open PySem PySem.Spec PyProof.Rows L2
theorem small {n : Nat} (h : n ≤ 1000) : n ≤ sizeLine := Nat.le_of_lt (small1000 h)
theorem ite_no {a b : Str} {A B : Prop} (h : a ≠ b) (k : B) : if decide (V.str a = V.str b) = true then A else B := by
  rw [decide_eq_false fun z => h (V.str.inj z)]
  exact iteF k
theorem ite_yes {a : Str} {A B : Prop} (k : A) : if decide (V.str a = V.str a) = true then A else B := by
  rw [decide_eq_true rfl]
  exact iteT k
theorem same_new {H : Hp} {p : Addr} (h : H p = none) (o : HO) : Same H (upd H p o) := fun b u q => by rw [upd_ne (ne_of_none q h)]; exact q
/-! ### a def that is called by its promise -/
def Cal (P : Program) (w : World) (K : PySem.W.Frag) (mg : Str → Option Value) (base : Heap) (k : Nat) (x : Str) (ps : List Str) (sp : Sp) : Prop :=
  ∃ (f : Addr) (fd : FuncData), FnOk P w K mg base CX0 k f fd ps sp ∧ mg x = some (.ref f) ∧ PySem.W.keepIn K (.ref f) = true ∧ Binds K fd ps []
theorem Cal.mono {P : Program} {w : World} {K : PySem.W.Frag} {mg : Str → Option Value} {base : Heap} {j k : Nat} {x : Str} {ps : List Str} {sp : Sp} (C : Cal P w K mg base j x ps sp) (h : j ≤ k) : Cal P w K mg base k x ps sp := by
  obtain ⟨f, fd, h1, h2⟩ := C
  exact ⟨f, fd, h1.mono h, h2⟩
theorem pe_cal {X : Cx} {k : Nat} {x : Str} {ps : List Str} {sp : Sp} {e : Expr} {es : List Expr} {t : TA} {p pos : Pos} (C : Cal X.prog X.w X.K X.mg X.base k x ps sp) (hr : Room k X.A) (hg : Gl X x) (ha : PA X (e :: es) t) (hdb : (x == ("__debug__" : Str)) = false := by decide)
    (he : starEach (e :: es) X.env = (false, eval e X.env) :: starEach es X.env := by rfl) (hpl : (backTo pos (starEach es X.env)).any (·.1) = false := by rfl) : PE X (.Call (.Name x p) (e :: es) [] pos) (tCall sp [] E0 t) := by
  obtain ⟨f, fd, h1, h2, h3, h4⟩ := C
  exact pe_call h1 hr hg h2 h3 h4 .nil pass0 ha hdb he hpl
/-- a def of the text whose promise is shown -/
theorem cal_of {P : Program} {w : World} {K : PySem.W.Frag} {mg : Str → Option Value} {base : Heap} {k : Nat} {x : Str} {st : Stmt} {f : Addr} {fd : FuncData} {ps : List Str} {sp : Sp} (F : FnP K x st f fd) (hm : mg x = some (.ref f)) (G : FnOk P w K mg base CX0 k f fd ps sp)
    (h : ∀ (kV doc pm : Value) (an : Option Addr) (cdv ct : Value) (us : List Value), us.length = ps.length → bindArgs (PySem.W.fnOf x x (defArgs st) (defBody st) (defScope st) .none kV doc pm an cdv ct) ⟨us, []⟩ = pure (ps.zip us)) : Cal P w K mg base k x ps sp :=
  ⟨f, fd, G, hm, F.kp, F.bindsN h⟩
theorem FnP.okn {P : Program} {w : World} {K : PySem.W.Frag} {mg : Str → Option Value} {base : Heap} {x : Str} {st : Stmt} {f : Addr} {fd : FuncData} {N ps : List Str} {k : Nat} {sp : Sp} (F : FnP K x st f fd) (S : FnScope N ps (defScope st)) (len : ∀ vs H Q E, sp vs H Q E → vs.length = ps.length)
    (hbody : ∀ (cdv : Value) (A : Around) (outer : List Env) (s : Shared) (H : Hp) (vs : List V) (Q : VK) (E : XK), Room k (A.deeper (envOfC x (defScope st) s.heap.objs.size f cdv)) → sp vs H Q E →
      ∃ t, PSs (cxOf CX0 P w K mg base N x (defScope st) f cdv A outer s H E).nox (defBody st) t ∧ t { nx := fun _ H' => Q .non H', rt := Q } (start N vs) H) : FnOk P w K mg base CX0 (k + 1) f fd ps sp :=
  F.ok S len fun cdv A outer s H vs Q E hr h => by
    obtain ⟨t, h1, h2⟩ := hbody cdv A outer s H vs Q E hr h
    exact ⟨t, h1.nox, h2⟩
/-- the built-ins' names are none of the module's -/
structure Blt (mg : Str → Option Value) : Prop where
  len : mg "len" = none
  abs : mg "abs" = none
  sorted : mg "sorted" = none
  range : mg "range" = none
  isi : mg "isinstance" = none
  tup : mg "tuple" = none
  str : mg "str" = none
  bl : mg "bool" = none
  lst : mg "list" = none
  dct : mg "dict" = none
  any : mg "any" = none
  all : mg "all" = none
/-! ### the hand -/
def hnd (l : Addr) (p b c u v : Int) : HO := .lst [.ref l, .int p, .int b, .int c, .int u, .int v]
def spNext : Sp := fun vs H Q _ => ∃ (h l : Addr) (p b c u v : Int), vs = [.ref h] ∧ H h = some (hnd l p b c u v) ∧ ∀ (u' v' : Int) (H' : Hp), H' h = some (hnd l p b c u' v') → (∀ a, a ≠ h → H' a = H a) → Q (.int (u' + v')) H'
section
variable {P : Program} {w : World} {K : PySem.W.Frag} {mg : Str → Option Value} {base : Heap} {f : Addr} {fd : FuncData}
theorem ok_next (F : FnP K "_law_next" sLawNext f fd) : FnOk P w K mg base CX0 1 f fd ["_law_hand_here"] spNext := by
  refine F.okn cLawNext (fun vs H Q E h => ?_) (fun cdv A outer s H vs Q E hr h => ?_)
  · obtain ⟨h, l, p, b, c, u, v, rfl, _⟩ := h
    rfl
  · obtain ⟨h, l, p, b, c, u, v, rfl, hh, q⟩ := h
    refine ⟨_, pss_cons (ps_asg (pe_op op_mod (pe_op op_mul (pe_ix ix_list (pv 0) pe_int (fun _ _ => rfl)) pe_int) pe_int) (pg_sub (pv 0) pe_int set_list))
      (pss_cons (ps_asg (pe_op op_mod (pe_op op_mul (pe_ix ix_list (pv 0) pe_int (fun _ _ => rfl)) pe_int) pe_int) (pg_sub (pv 0) pe_int set_list))
      (pss_one (ps_ret (pe_op op_add (pe_ix ix_list (pv 0) pe_int (fun _ _ => rfl)) (pe_ix ix_list (pv 0) pe_int (fun _ _ => rfl)))))), ?_⟩
    refine ⟨_, rfl, h, _, 4, .int u, rfl, rfl, SqL.of hh, atI_nat (j := 4) rfl, _, _, rfl, rfl, .inr ⟨by decide, by decide⟩, _, _, rfl, rfl, (by show (0 : Int) < 2147483647; decide), ?_⟩
    refine ⟨_, rfl, h, _, 4, 4, rfl, rfl, hh, rfl, ?_⟩
    refine ⟨_, rfl, h, _, 5, .int v, rfl, rfl, SqL.of upd_same, atI_nat (j := 5) rfl, _, _, rfl, rfl, .inr ⟨by decide, by decide⟩, _, _, rfl, rfl, (by show (0 : Int) < 2147483399; decide), ?_⟩
    refine ⟨_, rfl, h, _, 5, 5, rfl, rfl, upd_same, rfl, ?_⟩
    refine ⟨_, rfl, h, _, 4, _, rfl, rfl, SqL.of upd_same, atI_nat (j := 4) rfl, _, rfl, h, _, 5, _, rfl, rfl, SqL.of upd_same, atI_nat (j := 5) rfl, _, _, rfl, rfl, ?_⟩
    refine q _ _ _ ?_ fun a ha => ?_
    · rw [upd_same]
      rfl
    · rw [upd_ne ha, upd_ne ha]
/-- the hand, whatever its numbers are -/
def HandAt (H : Hp) (h l : Addr) : Prop := ∃ (ns : List Int) (p b c u v : Int), H h = some (hnd l p b c u v) ∧ H l = some (.lst (ns.map V.int)) ∧ l ≠ h ∧ 0 ≤ p ∧ 0 ≤ b
/-- all but the hand is as it was -/
def But (h : Addr) (H H' : Hp) : Prop := ∀ a o, a ≠ h → H a = some o → H' a = some o
theorem But.refl (h : Addr) (H : Hp) : But h H H := fun _ _ _ e => e
theorem But.trans {h : Addr} {H H1 H2 : Hp} (a : But h H H1) (b : But h H1 H2) : But h H H2 := fun c o n e => b c o n (a c o n e)
theorem But.upd {h : Addr} {H : Hp} {o : HO} : But h H (upd H h o) := fun a u n e => by
  rw [upd_ne n]
  exact e
theorem But.eq {h : Addr} {H H' : Hp} (e : ∀ a, a ≠ h → H' a = H a) : But h H H' := fun a u n z => by
  rw [e a n]
  exact z
theorem But.same {h : Addr} {H H' : Hp} (e : Same H H') : But h H H' := fun a u _ z => e a u z
theorem atI_of {α : Type} {xs : List α} {k : Int} {n : Nat} {v : α} (e : k = (n : Int)) (h : xs[n]? = some v) : atI xs k = some v := by
  subst e
  exact atI_nat h
def spTake : Sp := fun vs H Q _ => ∃ (h l : Addr), vs = [.ref h] ∧ HandAt H h l ∧ ∀ H', HandAt H' h l → But h H H' → Q .non H'
theorem ok_take (F : FnP K "_law_take" sLawTake f fd) (B : Blt mg) (N : Cal P w K mg base 1 "_law_next" ["_law_hand_here"] spNext) : FnOk P w K mg base CX0 2 f fd ["_law_hand_here"] spTake := by
  refine F.okn cLawTake (fun vs H Q E h => ?_) (fun cdv A outer s H vs Q E hr h => ?_)
  · obtain ⟨h, l, rfl, _⟩ := h
    rfl
  · obtain ⟨h, l, rfl, ⟨ns, p, b, c, u, v, hh, hl, lh, hp, hb⟩, q⟩ := h
    refine ⟨_, pss_cons (ps_set (i := 1) cLawTake.nd rfl (.inl rfl) pe_int)
      (C8.pss_cut (ps_if (pt_cmpR op_lt (pe_ix ix_list (pv 0) pe_int (fun _ _ => rfl)) (pe_callB call_len_seq (by rfl) B.len PySem.boot_len (pa_cons (pe_ix ix_list (pv 0) pe_int (fun _ _ => rfl)) pa_nil)) (nomark _))
        (pss_one (ps_set (i := 1) cLawTake.nd rfl (.inl rfl) (pe_callB call_abs (by rfl) B.abs (by decide +kernel) (pa_cons (pe_ix ix_list (pe_ix ix_list (pv 0) pe_int (fun _ _ => rfl)) (pe_ix ix_list (pv 0) pe_int (fun _ _ => rfl)) (fun _ _ => rfl)) pa_nil)))) pss_nil)
      (pss_cons (ps_augS (pv 0) pe_int get_list pe_int ip_add set_list)
      (C8.pss_cut (ps_if (pt_cmpR op_ge (pv 1) (pe_op op_pow pe_int pe_int) (nomark _))
        (pss_one (ps_asg (pv 1) (pg_sub (pv 0) pe_int set_list)))
        (pss_one (ps_asg pe_int (pg_sub (pv 0) pe_int set_list))))
      (pss_cons (ps_asg (pe_op op_add (pe_op op_mod (pe_op op_add (pe_ix ix_list (pv 0) pe_int (fun _ _ => rfl)) (pe_op op_mod (pv 1) pe_int)) pe_int) pe_int) (pg_sub (pv 0) pe_int set_list))
      (pss_cons (ps_asg (pe_op op_add (pe_op op_mod (pe_op op_add (pe_op op_mul (pe_ix ix_list (pv 0) pe_int (fun _ _ => rfl)) pe_int) (pe_op op_mod (pv 1) pe_int)) pe_int) pe_int) (pg_sub (pv 0) pe_int set_list))
      (pss_cons (ps_expr (pe_cal N hr (by rfl) (pa_cons (pv 0) pa_nil)))
      (pss_one (ps_expr (pe_cal N hr (by rfl) (pa_cons (pv 0) pa_nil)))))))))), ?_⟩
    -- cell = 0; if hand[1] < len(hand[0])
    refine ⟨fun σ H1 => ∃ z : Int, 0 ≤ z ∧ σ = [some (.ref h), some (.int z)] ∧ H = H1, ?_, ?_⟩
    · refine ⟨_, rfl, h, _, 1, _, rfl, rfl, SqL.of hh, atI_nat (j := 1) rfl, _, rfl, h, _, 0, _, rfl, rfl, SqL.of hh, atI_nat (j := 0) rfl, l, _, rfl, .inl (SqL.of hl), _, _, rfl, rfl, _, rfl, ?_⟩
      refine ite2 (fun e => ?_) (fun e => ?_)
      · have hlt : p < ((ns.map V.int).length : Int) := of_decide_eq_true e
        rw [List.length_map] at hlt
        have hi : p.toNat < ns.length := by omega
        refine ⟨_, rfl, h, _, 0, _, rfl, rfl, SqL.of hh, atI_nat (j := 0) rfl, _, rfl, h, _, 1, _, rfl, rfl, SqL.of hh, atI_nat (j := 1) rfl, l, _, p, .int ns[p.toNat], rfl, rfl, SqL.of hl, atI_of (n := p.toNat) (by omega) ?_, _, rfl, _, ?_, rfl, rfl⟩
        · rw [List.getElem?_map, List.getElem?_eq_getElem hi]
          rfl
        · split <;> omega
      · exact ⟨0, by decide, rfl, rfl⟩
    · rintro σ H1 ⟨z, hz, rfl, rfl⟩
      -- hand[1] += 1
      refine ⟨_, rfl, h, _, 1, .int p, rfl, rfl, SqL.of hh, by decide, rfl, _, _, rfl, rfl, h, _, 1, 1, rfl, rfl, hh, rfl, ?_⟩
      -- if cell >= 10 ** 18
      refine ⟨fun σ H1 => ∃ b' c' : Int, 0 ≤ b' ∧ σ = [some (.ref h), some (.int z)] ∧ H1 h = some (hnd l (p + 1) b' c' u v) ∧ But h H H1, ?_, ?_⟩
      · refine ⟨_, rfl, _, _, rfl, rfl, ⟨by decide, by decide, by decide⟩, _, _, rfl, rfl, _, rfl, ?_⟩
        refine ite2 (fun e => ?_) (fun e => ?_)
        · refine ⟨_, rfl, _, rfl, h, _, 2, 2, rfl, rfl, upd_same, rfl, z, c, hz, rfl, ?_, ?_⟩
          · rw [upd_same]
            rfl
          · exact But.upd.trans But.upd
        · refine ⟨_, rfl, h, _, 3, 3, rfl, rfl, upd_same, rfl, b, 7, hb, rfl, ?_, ?_⟩
          · rw [upd_same]
            rfl
          · exact But.upd.trans But.upd
      · rintro σ H2 ⟨b', c', hb', rfl, hh2, bt⟩
        refine ⟨_, rfl, h, _, 4, .int u, rfl, rfl, SqL.of hh2, atI_nat (j := 4) rfl, _, rfl, _, _, rfl, rfl, (by show (0 : Int) < 2147483587; decide), _, _, rfl, rfl, _, _, rfl, rfl, (by show (0 : Int) < 2147483646; decide), _, _, rfl, rfl, _, rfl, h, _, 4, 4, rfl, rfl, hh2, rfl, ?_⟩
        refine ⟨_, rfl, h, _, 5, .int v, rfl, rfl, SqL.of upd_same, atI_nat (j := 5) rfl, _, _, rfl, rfl, .inr ⟨by decide, by decide⟩, _, rfl, _, _, rfl, rfl, (by show (0 : Int) < 1000003; decide), _, _, rfl, rfl, _, _, rfl, rfl, (by show (0 : Int) < 2147483398; decide), _, _, rfl, rfl, _, rfl, h, _, 5, 5, rfl, rfl, upd_same, rfl, ?_⟩
        refine ⟨_, rfl, h, l, p + 1, b', c', _, _, rfl, upd_same, fun u1 v1 H3 h3 e3 => ?_⟩
        refine ⟨_, rfl, h, l, p + 1, b', c', _, _, rfl, h3, fun u2 v2 H4 h4 e4 => ?_⟩
        have b4 : But h H H4 := ((bt.trans (But.upd.trans But.upd)).trans (But.eq e3)).trans (But.eq e4)
        exact q H4 ⟨ns, p + 1, b', c', u2, v2, h4, b4 l _ lh hl, lh, by omega, hb'⟩ b4
def spDraw : Sp := fun vs H Q _ => ∃ (h l : Addr) (m : Int), vs = [.ref h, .int m] ∧ HandAt H h l ∧ 0 < m ∧ m ≤ 1000 ∧ ∀ (n : Int) (H' : Hp), 0 ≤ n → n < m → HandAt H' h l → But h H H' → Q (.int n) H'
theorem ok_draw (F : FnP K "_law_draw" sLawDraw f fd) (N : Cal P w K mg base 1 "_law_next" ["_law_hand_here"] spNext) (T : Cal P w K mg base 2 "_law_take" ["_law_hand_here"] spTake) : FnOk P w K mg base CX0 3 f fd ["_law_hand_here", "_law_many"] spDraw := by
  refine F.okn cLawDraw (fun vs H Q E h => ?_) (fun cdv A outer s H vs Q E hr h => ?_)
  · obtain ⟨h, l, m, rfl, _⟩ := h
    rfl
  · obtain ⟨h, l, m, rfl, ha, hm0, hm1, q⟩ := h
    refine ⟨_, C8.pss_cut (ps_if (PW.pt (pw_and (pt_cmpR op_eq (pe_ix ix_list (pv 0) pe_int (fun _ _ => rfl)) pe_int (nomark _)) (pw_and1 (pt_cmpR op_eq (pe_ix ix_list (pv 0) pe_int (fun _ _ => rfl)) pe_int (nomark _)))))
        (pss_one (ps_expr (pe_cal T hr (by rfl) (pa_cons (pv 0) pa_nil)))) pss_nil)
      (pss_cons (ps_if (pt_cmpR op_gt (pe_ix ix_list (pv 0) pe_int (fun _ _ => rfl)) pe_int (nomark _))
        (pss_cons (ps_set (i := 2) cLawDraw.nd rfl (.inl rfl) (pe_op op_mod (pe_ix ix_list (pv 0) pe_int (fun _ _ => rfl)) (pv 1)))
        (pss_cons (ps_asg (pe_op op_fdiv (pe_ix ix_list (pv 0) pe_int (fun _ _ => rfl)) (pv 1)) (pg_sub (pv 0) pe_int set_list))
        (pss_one (ps_ret (pv 2))))) pss_nil)
      (pss_cons (ps_augS (pv 0) pe_int get_list pe_int ip_sub set_list)
      (pss_cons (ps_set (i := 3) cLawDraw.nd rfl (.inl rfl) (pe_cal N (hr.mono (by decide)) (by rfl) (pa_cons (pv 0) pa_nil)))
      (pss_cons (ps_set (i := 4) cLawDraw.nd rfl (.inl rfl) pe_int)
      (pss_cons (ps_while PassesOwn.never (pt_cmpR op_lt (pv 4) (pv 1) (nomark _)) (pss_cons ps_never (pss_one ps_never)))
      (pss_one (ps_ret (pe_op op_mod (pv 3) (pv 1))))))))), ?_⟩
    refine ⟨fun σ H1 => σ = [some (.ref h), some (.int m), none, none, none] ∧ HandAt H1 h l ∧ But h H H1, ?_, ?_⟩
    · obtain ⟨ns, p, b, c, u, v, hh, hl, lh, hp, hb⟩ := id ha
      refine ⟨_, rfl, h, _, 2, _, rfl, rfl, SqL.of hh, atI_nat (j := 2) rfl, rfl, _, rfl, ?_⟩
      refine ite2 (fun e => ?_) (fun e => ?_)
      · refine ⟨_, rfl, h, _, 3, _, rfl, rfl, SqL.of hh, atI_nat (j := 3) rfl, rfl, _, rfl, ?_⟩
        refine ite2 (fun e => ?_) (fun e => ?_)
        · exact ⟨_, rfl, h, l, rfl, ha, fun H1 h1 b1 => ⟨rfl, h1, b1⟩⟩
        · exact ⟨rfl, ha, But.refl h H⟩
      · exact iteF ⟨rfl, ha, But.refl h H⟩
    · rintro σ H1 ⟨rfl, ⟨ns, p, b, c, u, v, hh, hl, lh, hp, hb⟩, bt⟩
      refine ⟨_, rfl, h, _, 2, _, rfl, rfl, SqL.of hh, atI_nat (j := 2) rfl, _, _, rfl, rfl, _, rfl, ?_⟩
      refine ite2 (fun e => ?_) (fun e => ?_)
      · refine ⟨_, rfl, h, _, 2, _, rfl, rfl, SqL.of hh, atI_nat (j := 2) rfl, _, rfl, _, _, rfl, rfl, hm0, ?_⟩
        refine ⟨_, rfl, h, _, 2, _, rfl, rfl, SqL.of hh, atI_nat (j := 2) rfl, _, rfl, _, _, rfl, rfl, ⟨hm0, by show m < 1073741824; omega⟩, _, rfl, h, _, 2, 2, rfl, rfl, hh, rfl, ?_⟩
        refine ⟨_, rfl, q _ _ (Int.emod_nonneg b (by omega)) (Int.emod_lt_of_pos b hm0) ⟨ns, p, b / m, c, u, v, ?_, ?_, lh, hp, Int.ediv_nonneg hb (by omega)⟩ (bt.trans But.upd)⟩
        · rw [upd_same]
          rfl
        · exact But.upd l _ lh hl
      · refine ⟨_, rfl, h, _, 3, .int c, rfl, rfl, SqL.of hh, by decide, rfl, _, _, rfl, rfl, h, _, 3, 3, rfl, rfl, hh, rfl, ?_⟩
        refine ⟨_, rfl, h, l, p, b, c - 1, u, v, rfl, upd_same, fun u1 v1 H3 h3 e3 => ?_⟩
        have b3 : But h H1 H3 := But.upd.trans (But.eq e3)
        refine ⟨fun _ σ H' => σ = [some (.ref h), some (.int m), none, some (.int (u1 + v1)), some (.int 4294967296)] ∧ H3 = H', ⟨0, rfl, rfl⟩, ?_⟩
        rintro _ σ H' ⟨rfl, rfl⟩
        refine ⟨_, rfl, _, rfl, _, _, rfl, rfl, _, rfl, ?_⟩
        refine ite2 (fun e => ?_) (fun e => ?_)
        · exact absurd (of_decide_eq_true e) (by omega)
        · refine ⟨_, rfl, _, rfl, _, _, rfl, rfl, hm0, ?_⟩
          exact q _ H3 (Int.emod_nonneg _ (by omega)) (Int.emod_lt_of_pos _ hm0) ⟨ns, p, b, c - 1, u1, v1, h3, b3 l _ lh hl, lh, hp, hb⟩ (bt.trans b3)
def spHand (K : PySem.W.Frag) : Sp := fun vs H Q _ => ∃ (a : Addr) (ns : List Int), vs = [.ref a] ∧ SqL K H a (ns.map V.int) ∧ ∀ (h l : Addr) (H' : Hp), HandAt H' h l → H h = none → Same H H' → Q (.ref h) H'
theorem cut_ints (ns : List Int) (lo hi : Option Int) : ∃ ms : List Int, cutV (ns.map V.int) lo hi = ms.map V.int := by
  unfold cutV
  rw [← List.map_drop, ← List.map_take]
  exact ⟨_, rfl⟩
theorem ok_hand (F : FnP K "_law_hand" sLawHand f fd) (B : Blt mg) : FnOk P w K mg base CX0 1 f fd ["_law_script"] (spHand K) := by
  refine F.okn cLawHand (fun vs H Q E h => ?_) (fun cdv A outer s H vs Q E hr h => ?_)
  · obtain ⟨a, ns, rfl, _⟩ := h
    rfl
  · obtain ⟨a, ns, rfl, hs, q⟩ := h
    refine ⟨_, pss_one (ps_ret (pe_lst (pa_cons (pe_callTy call_list_of (by rfl) B.lst (by decide +kernel) (pa_cons (pe_slice sl_list (pv 0) po_none (po_some pe_int)) pa_nil)) (pa_cons pe_int (pa_cons pe_int (pa_cons pe_int (pa_cons pe_int (pa_cons pe_int pa_nil)))))))), ?_⟩
    refine ⟨_, rfl, _, rfl, a, _, rfl, hs, fun p np => ?_⟩
    refine ⟨p, _, rfl, .inl (SqL.of upd_same), fun l nl => ?_⟩
    refine ⟨(by show 6 ≤ sizeLine; decide), fun h nh => ?_⟩
    obtain ⟨ms, em⟩ := cut_ints ns none (some 63)
    rw [em] at nl nh ⊢
    have s1 := same_new np (.lst (ms.map V.int))
    have s2 := same_new nl (.lst (ms.map V.int))
    have lh : l ≠ h := ne_of_none upd_same nh
    refine q h l _ ⟨ms, 0, 0, 0, 20011, 40009, upd_same, ?_, lh, by decide, by decide⟩ (s1.free (s2.free nh)) ((s1.trans s2).trans (same_new nh _))
    rw [upd_ne lh, upd_same]
end
end K27
end
section
set_option maxHeartbeats 4000000
/-! the law's own names -/
namespace K27
open PySem PySem.Spec PyProof.Rows L2
/-! ### texts of few signs -/
def Tx (n : Nat) (z : Str) : Prop := z.length ≤ n ∧ PyData.strOk z = true
theorem strOk_iff {z : Str} : PyData.strOk z = true ↔ ∀ c ∈ z.cps.toList, c < 0x110000 := by
  unfold PyData.strOk
  rw [← Array.all_toList, List.all_eq_true]
  simp
theorem len_eq (z : Str) : z.length = z.cps.toList.length := by simp [Str.length]
theorem Tx.cut {n : Nat} {z : Str} (h : Tx n z) (lo hi : Option Int) : Tx n (cutS z lo hi) := by
  obtain ⟨h1, h2⟩ := h
  refine ⟨?_, strOk_iff.mpr fun c hc => ?_⟩
  · rw [len_eq] at h1 ⊢
    unfold cutS
    rw [List.toList_toArray, List.length_take, List.length_drop]
    omega
  · unfold cutS at hc
    rw [List.toList_toArray] at hc
    exact strOk_iff.mp h2 c (List.mem_of_mem_drop (List.mem_of_mem_take hc))
theorem Tx.app {n m : Nat} {y z : Str} (h : Tx n y) (k : Tx m z) : Tx (n + m) (y ++ z) := by
  obtain ⟨h1, h2⟩ := h
  obtain ⟨k1, k2⟩ := k
  have e : (y ++ z).cps.toList = y.cps.toList ++ z.cps.toList := TL.tl_append y z
  refine ⟨?_, strOk_iff.mpr fun c hc => ?_⟩
  · rw [len_eq] at h1 k1 ⊢
    rw [e, List.length_append]
    omega
  · rw [e] at hc
    rcases List.mem_append.mp hc with hc | hc
    · exact strOk_iff.mp h2 c hc
    · exact strOk_iff.mp k2 c hc
theorem Tx.mono {n m : Nat} {z : Str} (h : Tx n z) (k : n ≤ m) : Tx m z := ⟨Nat.le_trans h.1 k, h.2⟩
theorem joinL_nil : ∀ xs : List (List Nat), TL.joinL [] xs = xs.flatten
  | [] => rfl
  | [p] => by simp [TL.joinL]
  | p :: q :: r => by
    have h := joinL_nil (q :: r)
    show p ++ ([] ++ TL.joinL [] (q :: r)) = _
    rw [h]
    rfl
theorem Tx.join {ys : List Str} (h : ∀ y ∈ ys, Tx 1 y) : Tx ys.length (Txt.join "" ys) := by
  have e : (Txt.join "" ys).cps.toList = (ys.map fun y => y.cps.toList).flatten := by
    have h1 : Txt.join "" ys = Str.join "" ys := TL.join_eq _ _
    rw [h1]
    have h2 := TL.tl_join "" ys
    have h3 : TL.tl ("" : Str) = [] := rfl
    rw [h3, joinL_nil] at h2
    exact h2
  refine ⟨?_, strOk_iff.mpr fun c hc => ?_⟩
  · rw [len_eq, e]
    clear e
    induction ys with
    | nil => simp
    | cons y ys ih =>
      have h1 := (h y (by simp)).1
      rw [len_eq] at h1
      have h2 := ih fun z hz => h z (by simp [hz])
      simp only [List.map_cons, List.flatten_cons, List.length_append, List.length_cons]
      omega
  · rw [e] at hc
    obtain ⟨l, hl, hc⟩ := List.mem_flatten.mp hc
    obtain ⟨y, hy, rfl⟩ := List.mem_map.mp hl
    exact strOk_iff.mp (h y hy).2 c hc
theorem Tx.sign {c : Nat} (h : c < 0x110000) : Tx 1 ⟨#[c]⟩ := ⟨Nat.le_refl 1, strOk_iff.mpr fun d hd => by
  have e : d = c := by simpa using hd
  subst e
  exact h⟩
abbrev letters : Str := "abcdefghijklmnopqrstuvwxyz"
theorem letters_len : letters.cps.toList.length = 26 := by decide +kernel
theorem letters_small : letters.length ≤ sizeLine := by decide +kernel
theorem letters_at {k : Int} (h0 : 0 ≤ k) (h1 : k < 26) : ∃ c, atI letters.cps.toList k = some c ∧ c < 0x110000 := by
  have hl := letters_len
  have hi : k.toNat < letters.cps.toList.length := by omega
  refine ⟨letters.cps.toList[k.toNat], atI_of (k := k) (n := k.toNat) (by omega) (List.getElem?_eq_getElem hi), ?_⟩
  have h : ∀ c ∈ letters.cps.toList, c < 0x110000 := by decide +kernel
  exact h _ (List.getElem_mem hi)
theorem HandAt.but {H H' : Hp} {h l : Addr} (a : HandAt H h l) (b : ∀ a o, H a = some o → H' a = some o) : HandAt H' h l := by
  obtain ⟨ns, p, b', c, u, v, hh, hl, lh, hp, hb⟩ := a
  exact ⟨ns, p, b', c, u, v, b _ _ hh, b _ _ hl, lh, hp, hb⟩
theorem HandAt.ne {H H' : Hp} {h l D : Addr} (a : HandAt H h l) (n : H D = none) : D ≠ h ∧ D ≠ l := by
  obtain ⟨ns, p, b', c, u, v, hh, hl, lh, hp, hb⟩ := a
  exact ⟨(ne_of_none hh n).symm, (ne_of_none hl n).symm⟩
theorem HandAt.upd {H : Hp} {h l D : Addr} {o : HO} (a : HandAt H h l) (n1 : D ≠ h) (n2 : D ≠ l) : HandAt (upd H D o) h l := by
  obtain ⟨ns, p, b', c, u, v, hh, hl, lh, hp, hb⟩ := a
  exact ⟨ns, p, b', c, u, v, by rw [upd_ne n1.symm]; exact hh, by rw [upd_ne n2.symm]; exact hl, lh, hp, hb⟩
def spNames : Sp := fun vs H Q _ => ∃ (h l : Addr) (m : Int), vs = [.ref h, .int m] ∧ HandAt H h l ∧ 0 < m ∧ m ≤ 5 ∧ ∀ (p : Addr) (names : List Str) (H' : Hp), names.length = m.toNat → (∀ n ∈ names, PyData.strOk n = true) → HandAt H' h l → But h H H' → H p = none → H' p = some (.lst (names.map V.str)) → Q (.ref p) H'
def words13 : List Str := ["is", "not", "and", "or", "then", "same", "yes", "no", "say", "fix", "isa", "nota", "a"]
section
variable {P : Program} {w : World} {K : PySem.W.Frag} {mg : Str → Option Value} {base : Heap} {f : Addr} {fd : FuncData}
theorem ok_names (F : FnP K "_law_names" sLawNames f fd) (B : Blt mg) (D : Cal P w K mg base 3 "_law_draw" ["_law_hand_here", "_law_many"] spDraw) : FnOk P w K mg base CX0 4 f fd ["_law_hand_here", "_law_many"] spNames := by
  have nd := cLawNames.nd
  refine F.okn cLawNames (fun vs H Q E h => ?_) (fun cdv A outer s H vs Q E hr h => ?_)
  · obtain ⟨h, l, m, rfl, _⟩ := h
    rfl
  · obtain ⟨h, l, m, rfl, ha, hm0, hm1, q⟩ := h
    refine ⟨_, pss_cons (ps_set (i := 2) nd rfl (.inr rfl) pe_str)
      (pss_cons (ps_set (i := 3) nd rfl (.inl rfl) (pe_cal D hr (by rfl) (pa_cons (pv 0) (pa_cons pe_int pa_nil))))
      (pss_cons (ps_if (pt_cmpR op_eq (pv 3) pe_int (nomark _))
        (pss_cons (ps_set (i := 4) nd rfl (.inr rfl) (pe_lst (pa_cons pe_str (pa_cons pe_str (pa_cons pe_str (pa_cons pe_str (pa_cons pe_str (pa_cons pe_str (pa_cons pe_str (pa_cons pe_str (pa_cons pe_str (pa_cons pe_str (pa_cons pe_str (pa_cons pe_str (pa_cons pe_str pa_nil)))))))))))))))
        (pss_cons (ps_set (i := 5) nd rfl (.inr rfl) (pe_cal D hr (by rfl) (pa_cons (pv 0) (pa_cons pe_int pa_nil))))
        (pss_one (ps_ret (pe_lc (own := [("_law_k", 6)]) (g := gName 6) (by rfl) nd (pi_range1 rfl B.range (pa_cons (pv 1) pa_nil)) (blkOk_by (own := [("_law_k", 6)]) (N := nLawNames) (sc := defScope sLawNames) (by decide +kernel)) (fun _ _ _ _ _ => pg_name (i := 6) nd rfl (Or.inl rfl)) (fun _ _ _ _ _ => pts_nil)
          (fun _ _ _ _ _ => pe_ix (r := rIxL K) ix_list (pv 4) (pe_op op_mod (pe_op op_add (pv 5) (pe_op op_mul pe_int (pv 6))) pe_int) (fun _ _ => rfl))))))) pss_nil)
      (pss_cons (ps_set (i := 7) nd rfl (.inr rfl) (pe_join pe_str (pe_lc (own := [("_law_k", 6)]) (g := gName 6) (by rfl) nd (pi_range1 rfl B.range (pa_cons pe_int pa_nil)) (blkOk_by (own := [("_law_k", 6)]) (N := nLawNames) (sc := defScope sLawNames) (by decide +kernel)) (fun _ _ _ _ _ => pg_name (i := 6) nd rfl (Or.inl rfl)) (fun _ _ _ _ _ => pts_nil)
          (fun _ _ _ _ _ => pe_ix ix_str (pv 2) (pe_cal D hr (by rfl) (pa_cons (pv 0) (pa_cons pe_int pa_nil))) (fun _ _ => rfl)))))
      (pss_cons (ps_if (pt_cmpR op_eq (pv 3) pe_int (nomark _))
        (pss_cons (ps_set (i := 5) nd rfl (.inr rfl) (pe_cal D hr (by rfl) (pa_cons (pv 0) (pa_cons pe_int pa_nil))))
        (pss_one (ps_ret (pe_lc (own := [("_law_k", 6)]) (g := gName 6) (by rfl) nd (pi_range1 rfl B.range (pa_cons (pv 1) pa_nil)) (blkOk_by (own := [("_law_k", 6)]) (N := nLawNames) (sc := defScope sLawNames) (by decide +kernel)) (fun _ _ _ _ _ => pg_name (i := 6) nd rfl (Or.inl rfl)) (fun _ _ _ _ _ => pts_nil)
          (fun _ _ _ _ _ => pe_slice sl_str (pv 7) po_none (po_some (pe_op op_add (pe_op op_mod (pe_op op_add (pv 5) (pe_op op_mul pe_int (pv 6))) pe_int) pe_int))))))) pss_nil)
      (pss_cons (ps_set (i := 8) nd rfl (.inl rfl) (pe_cal D hr (by rfl) (pa_cons (pv 0) (pa_cons pe_int pa_nil))))
      (pss_cons (ps_set (i := 9) nd rfl (.inl rfl) (pe_cal D hr (by rfl) (pa_cons (pv 0) (pa_cons pe_int pa_nil))))
      (pss_cons (ps_set (i := 10) nd rfl (.inl rfl) (pe_lst pa_nil))
      (pss_cons (ps_for PassesOwn.never rfl (pi_range1 rfl B.range (pa_cons (pv 1) pa_nil)) (pg_name (i := 6) nd rfl (Or.inl rfl))
        (pss_cons (ps_set (i := 11) nd rfl (.inl rfl) (pe_ix ix_str (pv 2) (pe_op op_mod (pe_op op_add (pv 9) (pe_op op_mul pe_int (pv 6))) pe_int) (fun _ _ => rfl)))
        (pss_cons (ps_set (i := 12) nd rfl (.inl rfl) (pe_op op_add_str (pe_op op_add_str (pe_slice sl_str (pv 7) po_none (po_some (pv 8))) (pv 11)) (pe_slice sl_str (pv 7) (po_some (pe_op op_add (pv 8) pe_int)) po_none)))
        (pss_one (ps_expr (pe_bm PySem.F.plainAttrs_list PySem.F.slot_list_append PySem.F.type_list_append mt_append (pv 10) (pa_cons (pe_slice sl_str (pv 12) po_none (po_some (pe_op op_add (pe_op op_add (pv 8) pe_int) (pe_cal D hr (by rfl) (pa_cons (pv 0) (pa_cons (pe_op op_sub pe_int (pv 8)) pa_nil)))))) pa_nil)))))))
      (pss_one (ps_ret (pv 10))))))))))), ?_⟩
    -- way
    refine ⟨_, rfl, h, l, 3, rfl, ha, by decide, by decide, fun way H1 w0 w1 ha1 b1 => ?_⟩
    refine ⟨_, rfl, rfl, _, rfl, ?_⟩
    refine ite2 (fun e => ?_) (fun e => ?_)
    · -- some = [..]; at
      refine ⟨(by show 13 ≤ sizeLine; decide), fun o no => ?_⟩
      obtain ⟨noh, nol⟩ := ha1.ne (H' := H1) no
      refine ⟨_, rfl, h, l, 13, rfl, ha1.upd noh nol, by decide, by decide, fun at_ H2 a0 a1 ha2 b2 => ?_⟩
      have bo : But h H H2 := (b1.trans (But.same (same_new no _))).trans b2
      have ho : H2 o = some (.lst (words13.map V.str)) := b2 o _ noh upd_same
      refine ⟨_, rfl, m, rfl, by omega, by omega, fun Dd nD => lc_range (lo := 0) (n := m.toNat) (fun i H' => ∃ ys : List Str, ys.length = i ∧ (∀ y ∈ ys, PyData.strOk y = true) ∧ HandAt H' h l ∧ But h H H' ∧ H' o = some (.lst (words13.map V.str)) ∧ H' Dd = some (.lst (ys.map V.str)) ∧ Dd ≠ h ∧ Dd ≠ l ∧ H Dd = none) ?_ (fun i H' hi hP => ?_) fun H' hP => ?_⟩
      · obtain ⟨ndh, ndl⟩ := ha2.ne (H' := H2) nD
        refine ⟨[], rfl, by simp, ha2.upd ndh ndl, bo.trans (But.same (same_new nD _)), ?_, upd_same, ndh, ndl, ?_⟩
        · rw [upd_ne (ne_of_none ho nD)]
          exact ho
        · cases q2 : H Dd with
          | none => rfl
          | some u =>
            have := bo Dd u ndh q2
            rw [nD] at this
            cases this
      · obtain ⟨ys, hy1, hy2, ha', b', ho', hD, ndh, ndl, nd0⟩ := hP
        have hk : ((at_ + 5 * (0 + (i : Int))) % 13).toNat < words13.length := by
          show _ < 13
          omega
        refine ⟨rfl, _, rfl, _, rfl, _, rfl, _, _, rfl, rfl, .inl ⟨by decide, by decide⟩, _, _, rfl, rfl, _, _, rfl, rfl, (by show (0 : Int) < 13; decide), o, _, _, .str words13[((at_ + 5 * (0 + (i : Int))) % 13).toNat], rfl, rfl, SqL.of ho', atI_of (n := ((at_ + 5 * (0 + (i : Int))) % 13).toNat) (by omega) ?_, _, hD, ?_, ?_⟩
        · rw [List.getElem?_map, List.getElem?_eq_getElem hk]
          rfl
        · rw [List.length_map]
          exact small1000 (by omega)
        · have dno : Dd ≠ o := fun z => by
            rw [z, ho'] at hD
            have h1 := HO.lst.inj (Option.some.inj hD)
            have h2 : (words13.map V.str).length = (ys.map V.str).length := congrArg _ h1
            rw [List.length_map, List.length_map] at h2
            have h3 : words13.length = 13 := rfl
            omega
          refine ⟨ys ++ [words13[((at_ + 5 * (0 + (i : Int))) % 13).toNat]], by rw [List.length_append, hy1] <;> rfl, fun y hy => ?_, ha'.upd ndh ndl, fun a u na ea => ?_, ?_, ?_, ndh, ndl, nd0⟩
          · rcases List.mem_append.mp hy with hy | hy
            · exact hy2 y hy
            · have ey := List.mem_singleton.mp hy
              have all13 : ∀ y ∈ words13, PyData.strOk y = true := by decide +kernel
              rw [ey]
              exact all13 _ (List.getElem_mem hk)
          · rw [upd_ne (ne_of_none ea nd0)]
            exact b' a u na ea
          · rw [upd_ne dno.symm]
            exact ho'
          · rw [upd_same, List.map_append]
            rfl
      · obtain ⟨ys, hy1, hy2, ha', b', ho', hD, ndh, ndl, nd0⟩ := hP
        exact q Dd ys H' hy1 hy2 ha' b' nd0 hD
    · -- word
      refine ⟨⟨_, rfl⟩, 8, rfl, by decide, by decide, fun Dd nD => lc_range (lo := 0) (n := 8) (fun i H' => ∃ ys : List Str, ys.length = i ∧ (∀ y ∈ ys, Tx 1 y) ∧ HandAt H' h l ∧ But h H H' ∧ H' Dd = some (.lst (ys.map V.str)) ∧ Dd ≠ h ∧ Dd ≠ l ∧ H Dd = none) ?_ (fun i H' hi hP => ?_) fun H' hP => ?_⟩
      · obtain ⟨ndh, ndl⟩ := ha1.ne (H' := H1) nD
        refine ⟨[], rfl, by simp, ha1.upd ndh ndl, b1.trans (But.same (same_new nD _)), upd_same, ndh, ndl, ?_⟩
        cases q2 : H Dd with
        | none => rfl
        | some u =>
          have := b1 Dd u ndh q2
          rw [nD] at this
          cases this
      · obtain ⟨ys, hy1, hy2, ha', b', hD, ndh, ndl, nd0⟩ := hP
        refine ⟨rfl, _, rfl, _, rfl, h, l, 26, rfl, ha', by decide, by decide, fun d H2 d0 d1 ha2 b2 => ?_⟩
        obtain ⟨c, hc, lc⟩ := letters_at d0 d1
        have hD2 : H2 Dd = some (.lst (ys.map V.str)) := b2 Dd _ ndh hD
        refine ⟨_, _, c, rfl, rfl, letters_small, hc, _, hD2, ?_, ?_⟩
        · rw [List.length_map]
          exact small1000 (by omega)
        · refine ⟨ys ++ [⟨#[c]⟩], by rw [List.length_append, hy1] <;> rfl, fun y hy => ?_, ha2.upd ndh ndl, fun a u na ea => ?_, ?_, ndh, ndl, nd0⟩
          · rcases List.mem_append.mp hy with hy | hy
            · exact hy2 y hy
            · rw [List.mem_singleton.mp hy]
              exact Tx.sign lc
          · rw [upd_ne (ne_of_none ea nd0)]
            exact b2 a u na (b' a u na ea)
          · rw [upd_same, List.map_append]
            rfl
      · obtain ⟨ys, hy1, hy2, ha2, b2, hD, ndh, ndl, nd0⟩ := hP
        have tw := Tx.join hy2
        rw [hy1] at tw
        have hz : (ys.map (·.length)).sum + ys.length * ("" : Str).length ≤ 16777216 := by
          have e0 : ("" : Str).length = 0 := rfl
          rw [e0, Nat.mul_zero]
          have hs : ∀ zs : List Str, (∀ y ∈ zs, Tx 1 y) → (zs.map (·.length)).sum ≤ zs.length := by
            intro zs
            induction zs with
            | nil => simp
            | cons z zs ih =>
              intro hz
              have h1 := (hz z (by simp)).1
              have h2 := ih fun x hx => hz x (by simp [hx])
              simp only [List.map_cons, List.sum_cons, List.length_cons]
              omega
          have := hs ys hy2
          omega
        refine ⟨_, Dd, ys, rfl, rfl, .inl (SqL.of hD), hz, ?_⟩
        generalize hwd : Txt.join "" ys = word at tw
        have wz : word.length ≤ sizeLine := small (Nat.le_trans tw.1 (by decide))
        -- way == 1
        refine ⟨_, rfl, rfl, _, rfl, ?_⟩
        refine ite2 (fun e2 => ?_) (fun e2 => ?_)
        · refine ⟨_, rfl, h, l, 8, rfl, ha2, by decide, by decide, fun at_ H3 a0 a1 ha3 b3 => ?_⟩
          have b03 : But h H H3 := b2.trans b3
          refine ⟨_, rfl, m, rfl, by omega, by omega, fun Dn nDn => lc_range (lo := 0) (n := m.toNat) (fun i H' => ∃ ys : List Str, ys.length = i ∧ (∀ y ∈ ys, PyData.strOk y = true) ∧ HandAt H' h l ∧ But h H H' ∧ H' Dn = some (.lst (ys.map V.str)) ∧ Dn ≠ h ∧ Dn ≠ l ∧ H Dn = none) ?_ (fun i H' hi hP => ?_) fun H' hP => ?_⟩
          · obtain ⟨ndh2, ndl2⟩ := ha3.ne (H' := H3) nDn
            refine ⟨[], rfl, by simp, ha3.upd ndh2 ndl2, b03.trans (But.same (same_new nDn _)), upd_same, ndh2, ndl2, ?_⟩
            cases q2 : H Dn with
            | none => rfl
            | some u =>
              have := b03 Dn u ndh2 q2
              rw [nDn] at this
              cases this
          · obtain ⟨zs, hz1, hz2, ha', b', hDn, ndh2, ndl2, nd02⟩ := hP
            refine ⟨rfl, _, rfl, _, rfl, _, rfl, _, _, rfl, rfl, .inl ⟨by decide, by decide⟩, _, _, rfl, rfl, _, _, rfl, rfl, (by show (0 : Int) < 8; decide), _, _, rfl, rfl, _, rfl, _, rfl, wz, _, hDn, ?_, ?_⟩
            · rw [List.length_map]
              exact small1000 (by omega)
            · refine ⟨zs ++ [cutS word none (some ((at_ + 3 * (0 + (i : Int))) % 8 + 1))], by rw [List.length_append, hz1] <;> rfl, fun y hy => ?_, ha'.upd ndh2 ndl2, fun a u na ea => ?_, ?_, ndh2, ndl2, nd02⟩
              · rcases List.mem_append.mp hy with hy | hy
                · exact hz2 y hy
                · rw [List.mem_singleton.mp hy]
                  exact (tw.cut _ _).2
              · rw [upd_ne (ne_of_none ea nd02)]
                exact b' a u na ea
              · rw [upd_same, List.map_append]
                rfl
          · obtain ⟨zs, hz1, hz2, ha', b', hDn, ndh2, ndl2, nd02⟩ := hP
            exact q Dn zs H' hz1 hz2 ha' b' nd02 hDn
        · -- spot, start
          refine ⟨_, rfl, h, l, 8, rfl, ha2, by decide, by decide, fun spot H3 s0 s1 ha3 b3 => ?_⟩
          refine ⟨_, rfl, h, l, 26, rfl, ha3, by decide, by decide, fun start_ H4 t0 t1 ha4 b4 => ?_⟩
          have b04 : But h H H4 := (b2.trans b3).trans b4
          refine ⟨Nat.zero_le _, fun Dn nDn => ?_⟩
          obtain ⟨ndh2, ndl2⟩ := ha4.ne (H' := H4) nDn
          have nd02 : H Dn = none := by
            cases q2 : H Dn with
            | none => rfl
            | some u =>
              have := b04 Dn u ndh2 q2
              rw [nDn] at this
              cases this
          refine ⟨_, rfl, m, rfl, by omega, by omega, for_range (lo := 0) (n := m.toNat) (fun i σ H' => ∃ (zs : List Str) (x6 x11 x12 : Option V), σ = [some (.ref h), some (.int m), some (.str letters), some (.int way), none, none, x6, some (.str word), some (.int spot), some (.int start_), some (.ref Dn), x11, x12] ∧
              zs.length = i ∧ (∀ y ∈ zs, PyData.strOk y = true) ∧ HandAt H' h l ∧ But h H H' ∧ H' Dn = some (.lst (zs.map V.str))) ?_ (fun i σ H' hi hP => ?_) fun σ H' hP => ?_⟩
          · exact ⟨[], none, none, none, rfl, rfl, by simp, ha4.upd ndh2 ndl2, b04.trans (But.same (same_new nDn _)), upd_same⟩
          · obtain ⟨zs, x6, x11, x12, rfl, hz1, hz2, ha', b', hDn⟩ := hP
            obtain ⟨c, hc, lc⟩ := letters_at (k := (start_ + 7 * (0 + (i : Int))) % 26) (Int.emod_nonneg _ (by decide)) (Int.emod_lt_of_pos _ (by decide))
            refine ⟨_, rfl, _, rfl, _, rfl, _, _, rfl, rfl, .inl ⟨by decide, by decide⟩, _, _, rfl, rfl, _, _, rfl, rfl, (by show (0 : Int) < 26; decide), _, _, c, rfl, rfl, letters_small, hc, ?_⟩
            -- name
            have tn : Tx 17 (cutS word none (some spot) ++ ⟨#[c]⟩ ++ cutS word (some (spot + 1)) none) := ((tw.cut none (some spot)).app (Tx.sign lc)).app (tw.cut (some (spot + 1)) none)
            refine ⟨_, rfl, _, rfl, _, rfl, _, rfl, wz, _, rfl, _, _, rfl, rfl, ?_, _, rfl, _, rfl, _, _, rfl, rfl, _, rfl, _, rfl, wz, _, _, rfl, rfl, ?_, ?_⟩
            · have h1 := (tw.cut none (some spot)).1
              have h2 := (Tx.sign lc).1
              exact small (by omega)
            · have h1 := ((tw.cut none (some spot)).app (Tx.sign lc)).1
              have h2 := (tw.cut (some (spot + 1)) none).1
              exact small (by omega)
            · generalize cutS word none (some spot) ++ ⟨#[c]⟩ ++ cutS word (some (spot + 1)) none = nm at tn
              have nz : nm.length ≤ sizeLine := small (Nat.le_trans tn.1 (by decide))
              refine ⟨_, rfl, .inl ⟨rfl, _, SqL.of hDn⟩, _, rfl, _, rfl, _, _, rfl, rfl, _, rfl, _, rfl, _, _, rfl, rfl, h, l, 8 - spot, rfl, ha', by omega, by omega, fun d H5 d0 d1 ha5 b5 => ?_⟩
              have hD5 : H5 Dn = some (.lst (zs.map V.str)) := b5 Dn _ ndh2 hDn
              refine ⟨_, _, rfl, rfl, _, rfl, _, rfl, nz, Dn, _, _, rfl, rfl, hD5, ?_, ?_⟩
              · rw [List.length_map]
                exact small1000 (by omega)
              · refine ⟨zs ++ [cutS nm none (some (spot + 1 + d))], _, _, _, rfl, by rw [List.length_append, hz1] <;> rfl, fun y hy => ?_, ha5.upd ndh2 ndl2, fun a u na ea => ?_, ?_⟩
                · rcases List.mem_append.mp hy with hy | hy
                  · exact hz2 y hy
                  · rw [List.mem_singleton.mp hy]
                    exact (tn.cut _ _).2
                · rw [upd_ne (ne_of_none ea nd02)]
                  exact b5 a u na (b' a u na ea)
                · rw [upd_same, List.map_append]
                  rfl
          · obtain ⟨zs, x6, x11, x12, rfl, hz1, hz2, ha', b', hDn⟩ := hP
            exact ⟨_, rfl, q Dn zs H' hz1 hz2 ha' b' nd02 hDn⟩
end
end K27
end
section
set_option maxHeartbeats 4000000
/-! the law's own rule -/
namespace K27
open PySem PySem.Spec PyProof.Rows L2
theorem But.tups {h l : Addr} {H H' : Hp} (b : But h H H') (a : HandAt H h l) : TupsStay H H' := fun t xs e => by
  obtain ⟨ns, p, b', c, u, v, hh, _⟩ := a
  exact b t _ (ne_of e hh (by intro z; cases z)) e
def spRule (n : Nat) : Sp := fun vs H Q _ => ∃ (h l a : Addr) (d : Int) (names : List Str), vs = [.ref h, .ref a, .int d] ∧ HandAt H h l ∧ H a = some (.lst (names.map V.str)) ∧ a ≠ h ∧ 0 < names.length ∧ names.length ≤ 5 ∧ 1 ≤ d ∧ d ≤ n ∧
  ∀ (t : Addr) (r : Rl) (H' : Hp), RuleAt H' r t → r.depth ≤ d.toNat → (∀ x ∈ r.names, x ∈ names) → HandAt H' h l → But h H H' → Q (.ref t) H'
section
variable {P : Program} {w : World} {K : PySem.W.Frag} {mg : Str → Option Value} {base : Heap} {f : Addr} {fd : FuncData}
theorem ok_rule {n : Nat} (F : FnP K "_law_rule" sLawRule f fd) (B : Blt mg) (D : Cal P w K mg base 3 "_law_draw" ["_law_hand_here", "_law_many"] spDraw) (G : Cal P w K mg base (3 + n) "_law_rule" ["_law_hand_here", "_law_names_here", "_law_deep"] (spRule n)) :
    FnOk P w K mg base CX0 (3 + n + 1) f fd ["_law_hand_here", "_law_names_here", "_law_deep"] (spRule (n + 1)) := by
  have nd := cLawRule.nd
  refine F.okn cLawRule (fun vs H Q E h => ?_) (fun cdv A outer s H vs Q E hr h => ?_)
  · obtain ⟨h, l, a, d, names, rfl, _⟩ := h
    rfl
  · obtain ⟨h, l, a, d, names, rfl, ha, hn, nah, n0, n5, d1, dn, q⟩ := h
    have hr3 : Room 3 _ := hr.mono (by omega : 3 ≤ 3 + n)
    refine ⟨_, pss_cons (ps_set (i := 3) nd rfl (.inl rfl) (pe_cal D hr3 (by rfl) (pa_cons (pv 0) (pa_cons pe_int pa_nil))))
      (pss_cons (ps_if (PW.pt (pw_or (pt_cmpR op_eq (pv 2) pe_int (nomark _)) (pw_or1 (pt_cmpR op_lt (pv 3) pe_int (nomark _)))))
        (pss_cons (ps_if (PW.pt (pw_or (pt_cmpR op_eq (pe_cal D hr3 (by rfl) (pa_cons (pv 0) (pa_cons pe_int pa_nil))) pe_int (nomark _)) (pw_or1 (pt_cmpR op_eq (pe_callB call_len_seq (by rfl) B.len PySem.boot_len (pa_cons (pv 1) pa_nil)) pe_int (nomark _)))))
          (pss_one (ps_ret (pe_ix ix_list (pe_lst (pa_cons (pe_tup (pa_cons pe_str pa_nil)) (pa_cons (pe_tup (pa_cons pe_str pa_nil)) pa_nil))) (pe_cal D hr3 (by rfl) (pa_cons (pv 0) (pa_cons pe_int pa_nil))) (fun _ _ => rfl)))) pss_nil)
        (pss_one (ps_ret (pe_tup (pa_cons pe_str (pa_cons (pe_ix ix_list (pv 1) (pe_cal D hr3 (by rfl) (pa_cons (pv 0) (pa_cons (pe_callB call_len_seq (by rfl) B.len PySem.boot_len (pa_cons (pv 1) pa_nil)) pa_nil))) (fun _ _ => rfl)) pa_nil)))))) pss_nil)
      (pss_cons (ps_set (i := 4) nd rfl (.inl rfl) (pe_cal G hr (by rfl) (pa_cons (pv 0) (pa_cons (pv 1) (pa_cons (pe_op op_sub (pv 2) pe_int) pa_nil)))))
      (pss_cons (ps_if (pt_cmpR op_lt (pv 3) pe_int (nomark _)) (pss_one (ps_ret (pe_tup (pa_cons pe_str (pa_cons (pv 4) pa_nil))))) pss_nil)
      (pss_one (ps_ret (pe_tup (pa_cons (pe_ix ix_list (pe_lst (pa_cons pe_str (pa_cons pe_str (pa_cons pe_str (pa_cons pe_str pa_nil))))) (pe_op op_sub (pv 3) pe_int) (fun _ _ => rfl)) (pa_cons (pv 4) (pa_cons (pe_cal G hr (by rfl) (pa_cons (pv 0) (pa_cons (pv 1) (pa_cons (pe_op op_sub (pv 2) pe_int) pa_nil)))) pa_nil))))))))), ?_⟩
    refine ⟨_, rfl, h, l, 8, rfl, ha, by decide, by decide, fun way H1 w0 w1 ha1 b1 => ?_⟩
    refine ⟨_, rfl, rfl, _, rfl, ?_⟩
    refine ite2 (fun e => ?leaf1) (fun e => ⟨_, rfl, _, _, rfl, rfl, _, rfl, ite2 (fun e2 => ?leaf2) (fun e2 => ?deep)⟩)
    case leaf1 | leaf2 =>
      refine ⟨_, rfl, h, l, 12, rfl, ha1, by decide, by decide, fun r12 H2 r0 r1 ha2 b2 => ?_⟩
      have bt : But h H H2 := b1.trans b2
      refine ⟨rfl, _, rfl, ?_⟩
      refine ite2 (fun e3 => ?_) (fun e3 => ?_)
      · refine ⟨(by show 1 ≤ sizeLine; decide), fun t1 n1 => ⟨(by show 1 ≤ sizeLine; decide), fun t2 n2 => ⟨(by show 2 ≤ sizeLine; decide), fun o no => ?_⟩⟩⟩
        have s1 := same_new n1 (.tup [.str "yes"])
        have s2 := same_new n2 (.tup [.str "no"])
        have s3 := same_new no (.lst [.ref t1, .ref t2])
        have sA := (s1.trans s2).trans s3
        have ha3 := ha2.but sA
        obtain ⟨noh, _⟩ := (ha2.but (s1.trans s2)).ne (H' := H2) no
        refine ⟨_, rfl, h, l, 2, rfl, ha3, by decide, by decide, fun z H3 z0 z1 ha4 b4 => ?_⟩
        have bA : But h H H3 := (bt.trans (But.same sA)).trans b4
        have ho : H3 o = some (.lst [.ref t1, .ref t2]) := b4 o _ noh upd_same
        have tA := But.tups b4 ha3
        have h1 : H3 t1 = some (.tup [.str "yes"]) := tA _ _ (s3 _ _ (s2 _ _ upd_same))
        have h2 : H3 t2 = some (.tup [.str "no"]) := tA _ _ (s3 _ _ upd_same)
        have hz : z = 0 ∨ z = 1 := by omega
        rcases hz with rfl | rfl
        · exact ⟨o, _, 0, .ref t1, rfl, rfl, SqL.of ho, atI_nat (j := 0) rfl, q t1 (.cst true) H3 h1 (by simp only [KM.R.depth]; omega) (by simp [KM.R.names]) ha4 bA⟩
        · exact ⟨o, _, 1, .ref t2, rfl, rfl, SqL.of ho, atI_nat (j := 1) rfl, q t2 (.cst false) H3 h2 (by simp only [KM.R.depth]; omega) (by simp [KM.R.names]) ha4 bA⟩
      · have hn2 : H2 a = some (.lst (names.map V.str)) := bt a _ nah hn
        refine ⟨_, rfl, a, _, rfl, .inl (SqL.of hn2), rfl, _, rfl, ?_⟩
        refine ite2 (fun e4 => ?_) (fun e4 => ?_)
        · exfalso
          have h4 := V.int.inj (of_decide_eq_true e4)
          rw [List.length_map] at h4
          omega
        · refine ⟨_, rfl, _, rfl, _, rfl, a, _, rfl, .inl (SqL.of hn2), h, l, _, rfl, ha2, by rw [List.length_map]; omega, by rw [List.length_map]; omega, fun z H3 z0 z1 ha4 b4 => ?_⟩
          rw [List.length_map] at z1
          have hz : z.toNat < names.length := by omega
          have hn3 : H3 a = some (.lst (names.map V.str)) := b4 a _ nah hn2
          refine ⟨a, _, z, .str names[z.toNat], rfl, rfl, SqL.of hn3, atI_of (n := z.toNat) (by omega) (by rw [List.getElem?_map, List.getElem?_eq_getElem hz]; rfl), (by show 2 ≤ sizeLine; decide), fun t nt => ?_⟩
          have s1 := same_new nt (.tup [.str "is", .str names[z.toNat]])
          refine q t (.is names[z.toNat]) _ upd_same (by simp only [KM.R.depth]; omega) (fun x hx => ?_) (ha4.but s1) ((bt.trans b4).trans (But.same s1))
          have ex : x = names[z.toNat] := by simpa [KM.R.names] using hx
          rw [ex]
          exact List.getElem_mem hz
    case deep =>
      have hd1 : ¬ d = 1 := fun z => e (decide_eq_true (by rw [z]))
      have hn1 : H1 a = some (.lst (names.map V.str)) := b1 a _ nah hn
      refine ⟨_, rfl, _, rfl, _, rfl, _, _, rfl, rfl, h, l, a, d - 1, names, rfl, ha1, hn1, nah, n0, n5, by omega, by omega, fun t1 r1 H2 g1 g2 g3 ha2 b2 => ?_⟩
      have bt : But h H H2 := b1.trans b2
      refine ⟨_, rfl, _, _, rfl, rfl, _, rfl, ?_⟩
      refine ite2 (fun e3 => ?_) (fun e3 => ?_)
      · refine ⟨_, rfl, (by show 2 ≤ sizeLine; decide), fun t nt => ?_⟩
        have s1 := same_new nt (.tup [.str "not", .ref t1])
        refine q t (.neg r1) _ ⟨t1, upd_same, RuleAt.stay (Same.tups s1) g1⟩ (by simp only [KM.R.depth]; omega) g3 (ha2.but s1) (bt.trans (But.same s1))
      · refine ⟨(by show 4 ≤ sizeLine; decide), fun o no => ?_⟩
        have s1 := same_new no (.lst [.str "and", .str "or", .str "then", .str "same"])
        have hw4 : 4 ≤ way := by
          have := of_decide_eq_false (Bool.eq_false_iff.mpr e3)
          omega
        obtain ⟨op, hop⟩ : ∃ op : KM.O, atI ([.str "and", .str "or", .str "then", .str "same"] : List V) (way - 4) = some (.str (opn op)) := by
          have hw : way - 4 = 0 ∨ way - 4 = 1 ∨ way - 4 = 2 ∨ way - 4 = 3 := by omega
          rcases hw with hw | hw | hw | hw
          · exact ⟨.and, by rw [hw]; exact atI_nat (j := 0) rfl⟩
          · exact ⟨.or, by rw [hw]; exact atI_nat (j := 1) rfl⟩
          · exact ⟨.thn, by rw [hw]; exact atI_nat (j := 2) rfl⟩
          · exact ⟨.same, by rw [hw]; exact atI_nat (j := 3) rfl⟩
        have ha3 := ha2.but s1
        have hn2 : H2 a = some (.lst (names.map V.str)) := b2 a _ nah hn1
        refine ⟨_, rfl, _, _, rfl, rfl, o, _, _, .str (opn op), rfl, rfl, SqL.of upd_same, hop, _, rfl, _, rfl, _, rfl, _, rfl, _, _, rfl, rfl, h, l, a, d - 1, names, rfl, ha3, s1 _ _ hn2, nah, n0, n5, by omega, by omega, fun t2 r2 H3 k1 k2 k3 ha4 b4 => ?_⟩
        refine ⟨(by show 3 ≤ sizeLine; decide), fun t nt => ?_⟩
        have s4 := same_new nt (.tup [.str (opn op), .ref t1, .ref t2])
        refine q t (.bin op r1 r2) _ ⟨t1, t2, upd_same, RuleAt.stay (Same.tups s4) (RuleAt.stay (But.tups b4 ha3) (RuleAt.stay (Same.tups s1) g1)), RuleAt.stay (Same.tups s4) k1⟩ (by simp only [KM.R.depth]; omega) (fun x hx => ?_) (ha4.but s4) (((bt.trans (But.same s1)).trans b4).trans (But.same s4))
        rcases List.mem_append.mp (show x ∈ r1.names ++ r2.names from hx) with hx | hx
        · exact g3 x hx
        · exact k3 x hx
end
end K27
end
section
set_option maxHeartbeats 4000000
/-! whether a rule holds: the program's own reading and the law's -/
namespace K27
open PySem PySem.Spec PyProof.Rows L2
theorem valV_kvs {n : Str} : ∀ f : List Lit, valV (kvs f) (Sum.inr n : Key) = (f.lookup n).map V.bl
  | [] => rfl
  | (m, b) :: f => by
    show valV ((Sum.inr m, V.bl b) :: kvs f) (Sum.inr n : Key) = _
    rw [List.lookup_cons]
    by_cases e : n = m
    · subst e
      rw [valV_pos rfl, beq_self_eq_true]
      rfl
    · rw [valV_neg (fun z => e (Sum.inr.inj z).symm), beq_eq_false_iff_ne.mpr e]
      exact valV_kvs f
theorem facts_get {H : Hp} {a : Addr} {f : List Lit} (h : FactsAt H a f) (n : Str) : DGet H a (.str n) ((f.lookup n).map V.bl) := by
  have q := DGet.k (k := Sum.inr n) h
  rw [valV_kvs] at q
  exact q
theorem opn_yes (o : KM.O) : opn o ≠ "yes" := by cases o <;> decide +kernel
theorem opn_no (o : KM.O) : opn o ≠ "no" := by cases o <;> decide +kernel
theorem opn_is (o : KM.O) : opn o ≠ "is" := by cases o <;> decide +kernel
theorem opn_not (o : KM.O) : opn o ≠ "not" := by cases o <;> decide +kernel
/-- facts for all names of a rule -/
def Has (f : List Lit) (r : Rl) : Prop := ∀ n ∈ r.names, ∃ b, f.lookup n = some b
def spHolds (n : Nat) : Sp := fun vs H Q _ => ∃ (t a : Addr) (r : Rl) (f : List Lit), vs = [.ref t, .ref a] ∧ RuleAt H r t ∧ FactsAt H a f ∧ Has f r ∧ r.depth ≤ n ∧ Q (.bl (r.ev (KM.val f))) H
theorem none_holds {P : Program} {w : World} {K : PySem.W.Frag} {mg : Str → Option Value} {base : Heap} {k : Nat} {f : Addr} {fd : FuncData} {ps : List Str} : FnOk P w K mg base CX0 k f fd ps (spHolds 0) := by
  have no : ∀ vs H Q E, ¬ spHolds 0 vs H Q E := fun vs H Q E h => by
    obtain ⟨t, a, r, f, _, _, _, _, h1, _⟩ := h
    cases r <;> simp only [KM.R.depth] at h1 <;> omega
  exact ⟨fun vs H Q E h => absurd h (no vs H Q E), fun A outer s H args us vs Q E _ _ _ _ h => absurd h (no vs H Q E)⟩
section
variable {P : Program} {w : World} {K : PySem.W.Frag} {mg : Str → Option Value} {base : Heap} {f : Addr} {fd : FuncData}
theorem ok_under {n : Nat} (F : FnP K "holds_under" sHoldsUnder f fd) (G : Cal P w K mg base n "holds_under" ["rule", "facts"] (spHolds n)) : FnOk P w K mg base CX0 (n + 1) f fd ["rule", "facts"] (spHolds (n + 1)) := by
  have nd := cHoldsUnder.nd
  refine F.okn cHoldsUnder (fun vs H Q E h => ?_) (fun cdv A outer s H vs Q E hr h => ?_)
  · obtain ⟨t, a, r, f, rfl, _⟩ := h
    rfl
  · obtain ⟨t, a, r, fc, rfl, hR, hF, hH, hd, q⟩ := h
    have hu := hu_of hr
    refine ⟨_, pss_cons (ps_set (i := 2) nd rfl (.inl rfl) (pe_ix ix_tup (pv 0) pe_int (fun _ _ => rfl)))
      (pss_cons (ps_if (pt_cmpR op_eq (pv 2) pe_str (nomark _)) (pss_one (ps_ret pe_bl)) pss_nil)
      (pss_cons (ps_if (pt_cmpR op_eq (pv 2) pe_str (nomark _)) (pss_one (ps_ret pe_bl)) pss_nil)
      (pss_cons (ps_if (pt_cmpR op_eq (pv 2) pe_str (nomark _)) (pss_one (ps_ret (pe_dget hu (pv 1) (pe_ix ix_tup (pv 0) pe_int (fun _ _ => rfl)) (fun _ _ => rfl)))) pss_nil)
      (pss_cons (ps_if (pt_cmpR op_eq (pv 2) pe_str (nomark _)) (pss_one (ps_ret (pe_not (pe_cal G hr (by rfl) (pa_cons (pe_ix ix_tup (pv 0) pe_int (fun _ _ => rfl)) (pa_cons (pv 1) pa_nil)))))) pss_nil)
      (pss_cons (ps_set (i := 3) nd rfl (.inl rfl) (pe_cal G hr (by rfl) (pa_cons (pe_ix ix_tup (pv 0) pe_int (fun _ _ => rfl)) (pa_cons (pv 1) pa_nil))))
      (pss_cons (ps_set (i := 4) nd rfl (.inl rfl) (pe_cal G hr (by rfl) (pa_cons (pe_ix ix_tup (pv 0) pe_int (fun _ _ => rfl)) (pa_cons (pv 1) pa_nil))))
      (pss_cons (ps_if (pt_cmpR op_eq (pv 2) pe_str (nomark _)) (pss_one (ps_ret (pe_and (pv 3) (pe_one (pv 4))))) pss_nil)
      (pss_cons (ps_if (pt_cmpR op_eq (pv 2) pe_str (nomark _)) (pss_one (ps_ret (pe_or (pv 3) (pe_one (pv 4))))) pss_nil)
      (pss_cons (ps_if (pt_cmpR op_eq (pv 2) pe_str (nomark _)) (pss_one (ps_ret (pe_or (pv 4) (pe_one (pe_not (pv 3)))))) pss_nil)
      (pss_one (ps_ret (pe_cmpR op_eq (pv 3) (pv 4) (nomark _))))))))))))), ?_⟩
    cases r with
    | cst b =>
      cases b with
      | true => exact ⟨_, rfl, t, _, 0, _, rfl, rfl, SqT.of hR, atI_nat (j := 0) rfl, _, rfl, rfl, _, rfl, ite_yes q⟩
      | false => exact ⟨_, rfl, t, _, 0, _, rfl, rfl, SqT.of hR, atI_nat (j := 0) rfl, _, rfl, rfl, _, rfl, ite_no (by decide +kernel) ⟨_, rfl, rfl, _, rfl, ite_yes q⟩⟩
    | is x =>
      obtain ⟨b, hb⟩ := hH x (by simp [KM.R.names])
      have hg := facts_get hF x
      rw [hb] at hg
      have ev : KM.R.ev (KM.val fc) (.is x) = b := by
        show (List.lookup x fc).getD false = b
        rw [hb]
        rfl
      rw [ev] at q
      exact ⟨_, rfl, t, _, 0, _, rfl, rfl, SqT.of hR, atI_nat (j := 0) rfl, _, rfl, rfl, _, rfl, ite_no (by decide +kernel) ⟨_, rfl, rfl, _, rfl, ite_no (by decide +kernel) ⟨_, rfl, rfl, _, rfl, ite_yes
        ⟨_, rfl, _, rfl, t, _, 1, _, rfl, rfl, SqT.of hR, atI_nat (j := 1) rfl, a, _, rfl, hg, q⟩⟩⟩⟩
    | neg r =>
      obtain ⟨t1, h1, h2⟩ := hR
      refine ⟨_, rfl, t, _, 0, _, rfl, rfl, SqT.of h1, atI_nat (j := 0) rfl, _, rfl, rfl, _, rfl, ite_no (by decide +kernel) ⟨_, rfl, rfl, _, rfl, ite_no (by decide +kernel) ⟨_, rfl, rfl, _, rfl, ite_no (by decide +kernel) ⟨_, rfl, rfl, _, rfl, ite_yes ?_⟩⟩⟩⟩
      exact ⟨_, rfl, t, _, 1, _, rfl, rfl, SqT.of h1, atI_nat (j := 1) rfl, _, rfl, t1, a, r, fc, rfl, h2, hF, hH, by simp only [KM.R.depth] at hd; omega, _, rfl, q⟩
    | bin o r s =>
      obtain ⟨t1, t2, h1, h2, h3⟩ := hR
      have hH1 : Has fc r := fun x hx => hH x (List.mem_append_left _ hx)
      have hH2 : Has fc s := fun x hx => hH x (List.mem_append_right _ hx)
      simp only [KM.R.depth] at hd
      refine ⟨_, rfl, t, _, 0, _, rfl, rfl, SqT.of h1, atI_nat (j := 0) rfl, _, rfl, rfl, _, rfl, ite_no (opn_yes o) ⟨_, rfl, rfl, _, rfl, ite_no (opn_no o) ⟨_, rfl, rfl, _, rfl, ite_no (opn_is o) ⟨_, rfl, rfl, _, rfl, ite_no (opn_not o) ?_⟩⟩⟩⟩
      refine ⟨_, rfl, t, _, 1, _, rfl, rfl, SqT.of h1, atI_nat (j := 1) rfl, _, rfl, t1, a, r, fc, rfl, h2, hF, hH1, by omega, ?_⟩
      refine ⟨_, rfl, t, _, 2, _, rfl, rfl, SqT.of h1, atI_nat (j := 2) rfl, _, rfl, t2, a, s, fc, rfl, h3, hF, hH2, by omega, ?_⟩
      have q : Q (.bl (o.op (r.ev (KM.val fc)) (s.ev (KM.val fc)))) H := q
      generalize r.ev (KM.val fc) = b1 at q ⊢
      generalize s.ev (KM.val fc) = b2 at q ⊢
      cases o with
      | and => exact ⟨_, rfl, rfl, _, rfl, ite_yes ⟨_, rfl, _, rfl, ite2 (fun e => ⟨_, rfl, by rw [e] at q; exact q⟩) (fun e => by rw [Bool.eq_false_iff.mpr e] at q; exact q)⟩⟩
      | or => exact ⟨_, rfl, rfl, _, rfl, ite_no (by decide +kernel) ⟨_, rfl, rfl, _, rfl, ite_yes ⟨_, rfl, _, rfl, ite2 (fun e => by rw [e] at q; exact q) (fun e => ⟨_, rfl, by rw [Bool.eq_false_iff.mpr e] at q; exact q⟩)⟩⟩⟩
      | thn => exact ⟨_, rfl, rfl, _, rfl, ite_no (by decide +kernel) ⟨_, rfl, rfl, _, rfl, ite_no (by decide +kernel) ⟨_, rfl, rfl, _, rfl, ite_yes ⟨_, rfl, _, rfl, ite2 (fun e => by cases b1 <;> (rw [e] at q; exact q)) (fun e => ⟨_, rfl, _, rfl, by cases b1 <;> (rw [Bool.eq_false_iff.mpr e] at q; exact q)⟩)⟩⟩⟩⟩
      | same =>
        refine ⟨_, rfl, rfl, _, rfl, ite_no (by decide +kernel) ⟨_, rfl, rfl, _, rfl, ite_no (by decide +kernel) ⟨_, rfl, rfl, _, rfl, ite_no (by decide +kernel) ⟨_, rfl, _, rfl, rfl, ?_⟩⟩⟩⟩
        cases b1 <;> cases b2 <;> exact q
theorem ok_lholds {n : Nat} (F : FnP K "_law_holds" sLawHolds f fd) (G : Cal P w K mg base n "_law_holds" ["_law_rule_here", "_law_facts"] (spHolds n)) : FnOk P w K mg base CX0 (n + 1) f fd ["_law_rule_here", "_law_facts"] (spHolds (n + 1)) := by
  have nd := cLawHolds.nd
  refine F.okn cLawHolds (fun vs H Q E h => ?_) (fun cdv A outer s H vs Q E hr h => ?_)
  · obtain ⟨t, a, r, f, rfl, _⟩ := h
    rfl
  · obtain ⟨t, a, r, fc, rfl, hR, hF, hH, hd, q⟩ := h
    have hu := hu_of hr
    refine ⟨_, pss_cons (ps_set (i := 2) nd rfl (.inl rfl) (pe_ix ix_tup (pv 0) pe_int (fun _ _ => rfl)))
      (pss_cons (ps_if (PW.pt (pw_or (pt_cmpR op_eq (pv 2) pe_str (nomark _)) (pw_or1 (pt_cmpR op_eq (pv 2) pe_str (nomark _))))) (pss_one (ps_ret (pe_cmpR op_eq (pv 2) pe_str (nomark _)))) pss_nil)
      (pss_cons (ps_if (pt_cmpR op_eq (pv 2) pe_str (nomark _)) (pss_one (ps_ret (pe_dget hu (pv 1) (pe_ix ix_tup (pv 0) pe_int (fun _ _ => rfl)) (fun _ _ => rfl)))) pss_nil)
      (pss_cons (ps_set (i := 3) nd rfl (.inl rfl) (pe_cal G hr (by rfl) (pa_cons (pe_ix ix_tup (pv 0) pe_int (fun _ _ => rfl)) (pa_cons (pv 1) pa_nil))))
      (pss_cons (ps_if (pt_cmpR op_eq (pv 2) pe_str (nomark _)) (pss_one (ps_ret (pe_not (pv 3)))) pss_nil)
      (pss_cons (ps_set (i := 4) nd rfl (.inl rfl) (pe_cal G hr (by rfl) (pa_cons (pe_ix ix_tup (pv 0) pe_int (fun _ _ => rfl)) (pa_cons (pv 1) pa_nil))))
      (pss_cons (ps_if (pt_cmpR op_eq (pv 2) pe_str (nomark _)) (pss_one (ps_ret (pe_and (pv 3) (pe_one (pv 4))))) pss_nil)
      (pss_cons (ps_if (pt_cmpR op_eq (pv 2) pe_str (nomark _)) (pss_one (ps_ret (pe_or (pv 3) (pe_one (pv 4))))) pss_nil)
      (pss_cons (ps_if (pt_cmpR op_eq (pv 2) pe_str (nomark _)) (pss_one (ps_ret (pe_or (pe_not (pv 3)) (pe_one (pv 4))))) pss_nil)
      (pss_one (ps_ret (pe_cmpR op_eq (pv 3) (pv 4) (nomark _)))))))))))), ?_⟩
    have syn : decide (V.str ("no" : Str) = V.str "yes") = false := decide_eq_false fun z => absurd (V.str.inj z) (by decide +kernel)
    have syy : decide (V.str ("yes" : Str) = V.str "yes") = true := decide_eq_true rfl
    cases r with
    | cst b =>
      cases b with
      | true => exact ⟨_, rfl, t, _, 0, _, rfl, rfl, SqT.of hR, atI_nat (j := 0) rfl, _, rfl, rfl, _, rfl, ite_yes ⟨_, rfl, rfl, by show Q (.bl (decide (V.str ("yes" : Str) = V.str "yes"))) H; rw [syy]; exact q⟩⟩
      | false => exact ⟨_, rfl, t, _, 0, _, rfl, rfl, SqT.of hR, atI_nat (j := 0) rfl, _, rfl, rfl, _, rfl, ite_no (by decide +kernel) ⟨_, rfl, rfl, _, rfl, ite_yes ⟨_, rfl, rfl, by show Q (.bl (decide (V.str ("no" : Str) = V.str "yes"))) H; rw [syn]; exact q⟩⟩⟩
    | is x =>
      obtain ⟨b, hb⟩ := hH x (by simp [KM.R.names])
      have hg := facts_get hF x
      rw [hb] at hg
      have ev : KM.R.ev (KM.val fc) (.is x) = b := by
        show (List.lookup x fc).getD false = b
        rw [hb]
        rfl
      rw [ev] at q
      exact ⟨_, rfl, t, _, 0, _, rfl, rfl, SqT.of hR, atI_nat (j := 0) rfl, _, rfl, rfl, _, rfl, ite_no (by decide +kernel) ⟨_, rfl, rfl, _, rfl, ite_no (by decide +kernel) ⟨_, rfl, rfl, _, rfl, ite_yes
        ⟨_, rfl, _, rfl, t, _, 1, _, rfl, rfl, SqT.of hR, atI_nat (j := 1) rfl, a, _, rfl, hg, q⟩⟩⟩⟩
    | neg r =>
      obtain ⟨t1, h1, h2⟩ := hR
      refine ⟨_, rfl, t, _, 0, _, rfl, rfl, SqT.of h1, atI_nat (j := 0) rfl, _, rfl, rfl, _, rfl, ite_no (by decide +kernel) ⟨_, rfl, rfl, _, rfl, ite_no (by decide +kernel) ⟨_, rfl, rfl, _, rfl, ite_no (by decide +kernel) ?_⟩⟩⟩
      exact ⟨_, rfl, t, _, 1, _, rfl, rfl, SqT.of h1, atI_nat (j := 1) rfl, _, rfl, t1, a, r, fc, rfl, h2, hF, hH, by simp only [KM.R.depth] at hd; omega, _, rfl, rfl, _, rfl, ite_yes ⟨_, rfl, _, rfl, q⟩⟩
    | bin o r s =>
      obtain ⟨t1, t2, h1, h2, h3⟩ := hR
      have hH1 : Has fc r := fun x hx => hH x (List.mem_append_left _ hx)
      have hH2 : Has fc s := fun x hx => hH x (List.mem_append_right _ hx)
      simp only [KM.R.depth] at hd
      refine ⟨_, rfl, t, _, 0, _, rfl, rfl, SqT.of h1, atI_nat (j := 0) rfl, _, rfl, rfl, _, rfl, ite_no (opn_yes o) ⟨_, rfl, rfl, _, rfl, ite_no (opn_no o) ⟨_, rfl, rfl, _, rfl, ite_no (opn_is o) ?_⟩⟩⟩
      refine ⟨_, rfl, t, _, 1, _, rfl, rfl, SqT.of h1, atI_nat (j := 1) rfl, _, rfl, t1, a, r, fc, rfl, h2, hF, hH1, by omega, _, rfl, rfl, _, rfl, ite_no (opn_not o) ?_⟩
      refine ⟨_, rfl, t, _, 2, _, rfl, rfl, SqT.of h1, atI_nat (j := 2) rfl, _, rfl, t2, a, s, fc, rfl, h3, hF, hH2, by omega, ?_⟩
      have q : Q (.bl (o.op (r.ev (KM.val fc)) (s.ev (KM.val fc)))) H := q
      generalize r.ev (KM.val fc) = b1 at q ⊢
      generalize s.ev (KM.val fc) = b2 at q ⊢
      cases o with
      | and => exact ⟨_, rfl, rfl, _, rfl, ite_yes ⟨_, rfl, _, rfl, ite2 (fun e => ⟨_, rfl, by rw [e] at q; exact q⟩) (fun e => by rw [Bool.eq_false_iff.mpr e] at q; exact q)⟩⟩
      | or => exact ⟨_, rfl, rfl, _, rfl, ite_no (by decide +kernel) ⟨_, rfl, rfl, _, rfl, ite_yes ⟨_, rfl, _, rfl, ite2 (fun e => by rw [e] at q; exact q) (fun e => ⟨_, rfl, by rw [Bool.eq_false_iff.mpr e] at q; exact q⟩)⟩⟩⟩
      | thn =>
        refine ⟨_, rfl, rfl, _, rfl, ite_no (by decide +kernel) ⟨_, rfl, rfl, _, rfl, ite_no (by decide +kernel) ⟨_, rfl, rfl, _, rfl, ite_yes ⟨_, rfl, _, rfl, _, rfl, ?_⟩⟩⟩⟩
        cases b1 with
        | true => exact iteF ⟨_, rfl, q⟩
        | false => exact iteT q
      | same =>
        refine ⟨_, rfl, rfl, _, rfl, ite_no (by decide +kernel) ⟨_, rfl, rfl, _, rfl, ite_no (by decide +kernel) ⟨_, rfl, rfl, _, rfl, ite_no (by decide +kernel) ⟨_, rfl, _, rfl, rfl, ?_⟩⟩⟩⟩
        cases b1 <;> cases b2 <;> exact q
end
end K27
end
section
set_option maxHeartbeats 4000000
/-! the names of a rule: the program's own reading and the law's -/
namespace K27
open PySem PySem.Spec PyProof.Rows L2
/-- a rule that is no name's: its word, its parts -/
theorem rule_parts {H : Hp} : ∀ {r : Rl} {t : Addr}, RuleAt H r t → (∀ n, r ≠ .is n) → ∃ (wd : Str) (ts : List Addr), H t = some (.tup (.str wd :: ts.map V.ref)) ∧ wd ≠ "is" ∧ Paired (fun a s => RuleAt H s a) ts r.parts ∧ r.names = r.parts.flatMap KM.R.names ∧ ∀ s ∈ r.parts, s.depth + 1 ≤ r.depth
  | .cst b, t, h, _ => ⟨_, [], h, by cases b <;> decide +kernel, .nil, rfl, by simp [KM.R.parts]⟩
  | .is n, _, _, no => absurd rfl (no n)
  | .neg r, t, ⟨b, h1, h2⟩, _ => ⟨_, [b], h1, by decide +kernel, .cons h2 .nil, by simp [KM.R.names, KM.R.parts], by simp [KM.R.parts, KM.R.depth]⟩
  | .bin o r s, t, ⟨b, c, h1, h2, h3⟩, _ => ⟨_, [b, c], h1, by cases o <;> decide +kernel, .cons h2 (.cons h3 .nil), by simp [KM.R.names, KM.R.parts], by
    intro x hx
    have hx : x = r ∨ x = s := by simpa [KM.R.parts] using hx
    simp only [KM.R.depth]
    rcases hx with rfl | rfl <;> omega⟩
theorem cut_one (x : V) (xs : List V) : cutV (x :: xs) (some 1) none = xs := by
  unfold cutV
  rw [show HT.sIx (x :: xs).length 0 (some 1) = min 1 (x :: xs).length from HT.sIx_nat (x :: xs).length 0 1, HT.sIx_none]
  rw [show min 1 (x :: xs).length = 1 by rw [List.length_cons]; omega]
  show (List.take ((x :: xs).length - 1) xs) = xs
  rw [List.length_cons, Nat.add_sub_cancel]
  exact List.take_length
theorem cut_no (x : V) (xs : List V) : ¬ (HT.sIx (x :: xs).length 0 (some 1) = 0 ∧ HT.sIx (x :: xs).length (x :: xs).length none = (x :: xs).length) := by
  rintro ⟨h, _⟩
  rw [show HT.sIx (x :: xs).length 0 (some 1) = min 1 (x :: xs).length from HT.sIx_nat (x :: xs).length 0 1, List.length_cons] at h
  omega
def spAll (n : Nat) : Sp := fun vs H Q _ => ∃ (t : Addr) (r : Rl), vs = [.ref t] ∧ RuleAt H r t ∧ r.depth ≤ n ∧ r.depth ≤ 6 ∧ ∀ (p : Addr) (H' : Hp), Same H H' → H p = none → H' p = some (.lst (r.names.map V.str)) → Q (.ref p) H'
section
variable {P : Program} {w : World} {K : PySem.W.Frag} {mg : Str → Option Value} {base : Heap} {f : Addr} {fd : FuncData}
theorem none_all {k : Nat} {ps : List Str} : FnOk P w K mg base CX0 k f fd ps (spAll 0) := by
  have no : ∀ vs H Q E, ¬ spAll 0 vs H Q E := fun vs H Q E h => by
    obtain ⟨t, r, _, _, h1, _⟩ := h
    have := r.depth_pos
    omega
  exact ⟨fun vs H Q E h => absurd h (no vs H Q E), fun A outer s H args us vs Q E _ _ _ _ h => absurd h (no vs H Q E)⟩
theorem flat_take {r : Rl} {i : Nat} (h : r.names = r.parts.flatMap KM.R.names) {s : Rl} (hs : r.parts[i]? = some s) : (r.parts.take (i + 1)).flatMap KM.R.names = (r.parts.take i).flatMap KM.R.names ++ s.names ∧ ((r.parts.take i).flatMap KM.R.names).length + s.names.length ≤ r.names.length := by
  have e : (r.parts.take (i + 1)).flatMap KM.R.names = (r.parts.take i).flatMap KM.R.names ++ s.names := by
    rw [List.take_add_one, hs, List.flatMap_append]
    simp
  refine ⟨e, ?_⟩
  rw [← List.length_append, ← e, h]
  have h2 : r.parts.flatMap KM.R.names = (r.parts.take (i + 1)).flatMap KM.R.names ++ (r.parts.drop (i + 1)).flatMap KM.R.names := by
    rw [← List.flatMap_append, List.take_append_drop]
  rw [h2, List.length_append]
  omega
theorem ok_all {n : Nat} (F : FnP K "all_names_in" sAllNamesIn f fd) (G : Cal P w K mg base n "all_names_in" ["rule"] (spAll n)) : FnOk P w K mg base CX0 (n + 1) f fd ["rule"] (spAll (n + 1)) := by
  have nd := cAllNamesIn.nd
  refine F.okn cAllNamesIn (fun vs H Q E h => ?_) (fun cdv A outer s H vs Q E hr h => ?_)
  · obtain ⟨t, r, rfl, _⟩ := h
    rfl
  · obtain ⟨t, r, rfl, hR, hd, hd6, q⟩ := h
    refine ⟨_, pss_cons (ps_if (pt_cmpR op_eq (pe_ix ix_tup (pv 0) pe_int (fun _ _ => rfl)) pe_str (nomark _)) (pss_one (ps_ret (pe_lst (pa_cons (pe_ix ix_tup (pv 0) pe_int (fun _ _ => rfl)) pa_nil)))) pss_nil)
      (pss_cons (ps_set (i := 1) nd rfl (.inl rfl) (pe_lst pa_nil))
      (pss_cons (ps_for PassesOwn.never rfl (pi_tup (pe_slice sl_tup (pv 0) (po_some pe_int) po_none)) (pg_name (i := 2) nd rfl (Or.inl rfl))
        (pss_one (ps_set (i := 1) nd rfl (.inl rfl) (pe_op op_cat (pv 1) (pe_cal G hr (by rfl) (pa_cons (pv 2) pa_nil))))))
      (pss_one (ps_ret (pv 1))))), ?_⟩
    by_cases hi : ∃ x, r = .is x
    · obtain ⟨x, rfl⟩ := hi
      have hR : H t = some (.tup [.str "is", .str x]) := hR
      refine ⟨_, rfl, t, _, 0, _, rfl, rfl, SqT.of hR, atI_nat (j := 0) rfl, rfl, _, rfl, ite_yes ⟨_, rfl, t, _, 1, _, rfl, rfl, SqT.of hR, atI_nat (j := 1) rfl, (by show 1 ≤ sizeLine; decide), fun p np => ?_⟩⟩
      exact q p _ (same_new np _) np upd_same
    · obtain ⟨wd, ts, h1, h2, h3, h4, h5⟩ := rule_parts hR fun x e => hi ⟨x, e⟩
      refine ⟨_, rfl, t, _, 0, _, rfl, rfl, SqT.of h1, atI_nat (j := 0) rfl, rfl, _, rfl, ite_no h2 ?_⟩
      refine ⟨Nat.zero_le _, fun o no => ?_⟩
      have s1 := same_new no (.lst [])
      refine ⟨_, rfl, 1, rfl, t, _, rfl, SqT.of (s1 _ _ h1), cut_no _ _, fun c nc => ?_⟩
      rw [cut_one]
      have s2 := same_new nc (.tup (ts.map V.ref))
      have hco : c ≠ o := (ne_of_none upd_same nc).symm
      refine ⟨c, rfl, ⟨_, SqT.of upd_same⟩, for_tup (K := K) (a := c) (xs := ts.map V.ref) (fun i σ H' => ∃ (o' : Addr) (x2 : Option V), σ = [some (.ref t), some (.ref o'), x2] ∧ Same H H' ∧ H' o' = some (.lst (((r.parts.take i).flatMap KM.R.names).map V.str)) ∧ H' c = some (.tup (ts.map V.ref)) ∧ H o' = none) ?_ (fun i σ H' _ hP => ?_) (fun i x σ H' hx hP => ?_) fun σ H' hP => ?_⟩
      · exact ⟨o, none, rfl, s1.trans s2, s2 _ _ upd_same, upd_same, no⟩
      · obtain ⟨o', x2, rfl, _, _, hc, _⟩ := hP
        exact SqT.of hc
      · obtain ⟨o', x2, rfl, sm, ho, hc, no'⟩ := hP
        rw [List.getElem?_map] at hx
        cases ht : ts[i]? with
        | none =>
          rw [ht] at hx
          cases hx
        | some a =>
          rw [ht] at hx
          have ex : V.ref a = x := Option.some.inj hx
          subst ex
          obtain ⟨s, hs, ra⟩ := Paired.atL h3 ht
          obtain ⟨e1, e2⟩ := flat_take h4 hs
          have hds := h5 s (List.mem_of_getElem? hs)
          have h32 := KM.R.names_32 hd6
          refine ⟨_, rfl, _, rfl, a, s, rfl, RuleAt.stay (Same.tups sm) ra, by omega, by omega, fun p H2 sp np hp => ?_⟩
          have hpo : p ≠ o' := (ne_of_none ho np).symm
          refine ⟨o', p, _, _, rfl, rfl, sp _ _ ho, hp, by rw [List.length_map, List.length_map]; exact small (by omega), fun z nz => ?_⟩
          have s3 := same_new nz (.lst ((((r.parts.take i).flatMap KM.R.names).map V.str) ++ s.names.map V.str))
          refine ⟨z, _, rfl, (sm.trans sp).trans s3, ?_, s3 _ _ (sp _ _ hc), (sm.trans sp).free nz⟩
          rw [upd_same, e1, List.map_append]
      · obtain ⟨o', x2, rfl, sm, ho, hc, no'⟩ := hP
        refine ⟨_, rfl, q o' H' sm no' ?_⟩
        rw [ho, h4, List.take_of_length_le (by rw [List.length_map, Paired.len h3]; exact Nat.le_refl _)]
/-! ### names_of -/
def seenK (ks : List Str) : List (Key × V) := ks.map fun n => (Sum.inr n, V.bl true)
def addN (ks : List Str) (n : Str) : List Str := if n ∈ ks then ks else ks ++ [n]
theorem seen_any (ks : List Str) (n : Str) : ((seenK ks).any fun kv => decide (kv.1 = (Sum.inr n : Key))) = decide (n ∈ ks) := by
  unfold seenK
  rw [List.any_map]
  induction ks with
  | nil => simp
  | cons m ks ih =>
    rw [List.any_cons, ih]
    by_cases e : m = n
    · subst e
      simp
    · have e' : ¬ n = m := fun z => e z.symm
      have h1 : ¬ (Sum.inr m : Key) = Sum.inr n := fun z => e (Sum.inr.inj z)
      simp [e', h1]
theorem seen_put (ks : List Str) (n : Str) : putK (seenK ks) (Sum.inr n : Key) (V.bl true) = seenK (addN ks n) := by
  unfold putK addN
  rw [seen_any]
  by_cases e : n ∈ ks
  · rw [if_pos (decide_eq_true e), if_pos e]
    unfold seenK
    rw [List.map_map]
    refine List.map_congr_left fun m _ => ?_
    show (if (Sum.inr m : Key) = Sum.inr n then ((Sum.inr m : Key), V.bl true) else (Sum.inr m, V.bl true)) = _
    split <;> rfl
  · rw [if_neg (by simpa using e), if_neg e]
    unfold seenK
    rw [List.map_append]
    rfl
theorem add_nodup {ks : List Str} (h : ks.Nodup) (n : Str) : (addN ks n).Nodup := by
  unfold addN
  split
  · exact h
  · rename_i e
    rw [List.nodup_append]
    refine ⟨h, by simp, fun a ha b hb => ?_⟩
    have eb : b = n := by simpa using hb
    intro z
    exact e (by rw [← eb, ← z]; exact ha)
theorem add_mem {ks : List Str} {n m : Str} : m ∈ addN ks n ↔ m ∈ ks ∨ m = n := by
  unfold addN
  split
  · rename_i e
    constructor
    · exact .inl
    · rintro (h | rfl)
      · exact h
      · exact e
  · simp
def spNm : Sp := fun vs H Q _ => ∃ (t : Addr) (r : Rl), vs = [.ref t] ∧ RuleAt H r t ∧ r.depth ≤ 6 ∧ ∀ (p : Addr) (ys : List Str) (H' : Hp), Same H H' → H p = none → H' p = some (.lst (ys.map V.str)) → ys.Nodup → (∀ n, n ∈ ys ↔ n ∈ r.names) → sortedS ys = true → Q (.ref p) H'
theorem ok_nm (F : FnP K "names_of" sNamesOf f fd) (B : Blt mg) (G : Cal P w K mg base 6 "all_names_in" ["rule"] (spAll 6)) : FnOk P w K mg base CX0 7 f fd ["rule"] spNm := by
  have nd := cNamesOf.nd
  refine F.okn cNamesOf (fun vs H Q E h => ?_) (fun cdv A outer s H vs Q E hr h => ?_)
  · obtain ⟨t, r, rfl, _⟩ := h
    rfl
  · obtain ⟨t, r, rfl, hR, hd, q⟩ := h
    have hu := hu_of hr
    refine ⟨_, pss_cons (ps_set (i := 1) nd rfl (.inl rfl) pe_dnewK)
      (pss_cons (ps_for PassesOwn.never rfl (pi_list (pe_cal G hr (by rfl) (pa_cons (pv 0) pa_nil))) (pg_name (i := 2) nd rfl (Or.inl rfl))
        (pss_one (ps_dput hu (pv 1) (pv 2) pe_bl rfl)))
      (pss_one (ps_ret (pe_callB (call_sortedD rfl) (by rfl) B.sorted (by decide +kernel) (pa_cons (pv 1) pa_nil))))), ?_⟩
    intro d nd'
    have s1 := same_new nd' (.dK [])
    refine ⟨_, rfl, t, r, rfl, RuleAt.stay (Same.tups s1) hR, hd, hd, fun p H1 sp np hp => ?_⟩
    have hd1 : H1 d = some (.dK []) := sp _ _ upd_same
    have hpd : p ≠ d := (ne_of_none upd_same np).symm
    refine ⟨p, rfl, ⟨_, SqL.of hp⟩, for_list (K := K) (a := p) (xs := r.names.map V.str) (fun i σ H' => ∃ (ks : List Str) (x2 : Option V), σ = [some (.ref t), some (.ref d), x2] ∧ Same H H' ∧ H' p = some (.lst (r.names.map V.str)) ∧ H' d = some (.dK (seenK ks)) ∧ ks.Nodup ∧ (∀ n, n ∈ ks ↔ n ∈ r.names.take i)) ?_ (fun i σ H' _ hP => ?_) (fun i x σ H' hx hP => ?_) fun σ H' hP => ?_⟩
    · exact ⟨[], none, rfl, s1.trans sp, hp, hd1, .nil, by simp⟩
    · obtain ⟨ks, x2, rfl, _, hp', _⟩ := hP
      exact SqL.of hp'
    · obtain ⟨ks, x2, rfl, sm, hp', hd', hn, hm⟩ := hP
      rw [List.getElem?_map] at hx
      cases ht : r.names[i]? with
      | none =>
        rw [ht] at hx
        cases hx
      | some nm =>
        rw [ht] at hx
        have ex : V.str nm = x := Option.some.inj hx
        subst ex
        have hl : (seenK ks).length ≤ 32 := by
          unfold seenK
          rw [List.length_map]
          refine Nat.le_trans (KM.nodup_len hn fun z hz => ?_) (KM.R.names_32 hd)
          exact List.mem_of_mem_take ((hm z).mp hz)
        refine ⟨_, rfl, _, rfl, d, _, rfl, DPut.k (k := Sum.inr nm) hd' (small1000 (by omega)), ?_⟩
        rw [seen_put]
        refine ⟨addN ks nm, _, rfl, fun b o e => ?_, ?_, upd_same, add_nodup hn nm, fun z => ?_⟩
        · rw [upd_ne (ne_of_none e nd')]
          exact sm b o e
        · rw [upd_ne hpd]
          exact hp'
        · rw [add_mem, hm z, List.take_add_one, ht]
          simp
    · obtain ⟨ks, x2, rfl, sm, hp', hd', hn, hm⟩ := hP
      rw [List.length_map, List.take_length] at hm
      have hl : ks.length ≤ 32 := Nat.le_trans (KM.nodup_len hn fun z hz => (hm z).mp hz) (KM.R.names_32 hd)
      refine ⟨_, rfl, d, seenK ks, ks, rfl, Rd.of hd', by unfold seenK; rw [List.map_map]; rfl, by omega, fun ys p2 hy hs np2 => ?_⟩
      exact q p2 ys _ (sm.trans (same_new np2 _)) (sm.free np2) upd_same (hy.nodup_iff.mpr hn) (fun z => (hy.mem_iff).trans (hm z)) hs
/-! ### the law's own -/
theorem inV_str (n : Str) (ks : List Str) : inV (.str n) (ks.map V.str) = decide (n ∈ ks) := by
  unfold inV
  rw [List.any_map]
  induction ks with
  | nil => simp
  | cons m ks ih =>
    rw [List.any_cons, ih]
    show ((m == n) || _) = _
    by_cases e : m = n
    · subst e
      simp
    · have e' : ¬ n = m := fun z => e z.symm
      rw [beq_eq_false_iff_ne.mpr e]
      simp [e']
theorem flat_strs (ks : List Str) : (ks.map V.str).all flatV = true := by
  rw [List.all_map, List.all_eq_true]
  intro x _
  rfl
def spLNm (n : Nat) : Sp := fun vs H Q _ => ∃ (t : Addr) (r : Rl), vs = [.ref t] ∧ RuleAt H r t ∧ r.depth ≤ n ∧ r.depth ≤ 6 ∧ ∀ (p : Addr) (ys : List Str) (H' : Hp), Same H H' → H p = none → H' p = some (.lst (ys.map V.str)) → ys.Nodup → (∀ n, n ∈ ys ↔ n ∈ r.names) → Q (.ref p) H'
theorem none_lnm {k : Nat} {ps : List Str} : FnOk P w K mg base CX0 k f fd ps (spLNm 0) := by
  have no : ∀ vs H Q E, ¬ spLNm 0 vs H Q E := fun vs H Q E h => by
    obtain ⟨t, r, _, _, h1, _⟩ := h
    have := r.depth_pos
    omega
  exact ⟨fun vs H Q E h => absurd h (no vs H Q E), fun A outer s H args us vs Q E _ _ _ _ h => absurd h (no vs H Q E)⟩
theorem ok_lnm {n : Nat} (F : FnP K "_law_names_of" sLawNamesOf f fd) (B : Blt mg) (G : Cal P w K mg base n "_law_names_of" ["_law_rule_here"] (spLNm n)) : FnOk P w K mg base CX0 (n + 1) f fd ["_law_rule_here"] (spLNm (n + 1)) := by
  have nd := cLawNamesOf.nd
  refine F.okn cLawNamesOf (fun vs H Q E h => ?_) (fun cdv A outer s H vs Q E hr h => ?_)
  · obtain ⟨t, r, rfl, _⟩ := h
    rfl
  · obtain ⟨t, r, rfl, hR, hd, hd6, q⟩ := h
    refine ⟨_, pss_cons (ps_if (pt_cmpR op_eq (pe_ix ix_tup (pv 0) pe_int (fun _ _ => rfl)) pe_str (nomark _)) (pss_one (ps_ret (pe_lst (pa_cons (pe_ix ix_tup (pv 0) pe_int (fun _ _ => rfl)) pa_nil)))) pss_nil)
      (pss_cons (ps_set (i := 1) nd rfl (.inr rfl) (pe_lst pa_nil))
      (pss_cons (ps_for PassesOwn.never rfl (pi_tup (pe_slice sl_tup (pv 0) (po_some pe_int) po_none)) (pg_name (i := 2) nd rfl (Or.inl rfl))
        (pss_one (ps_set (i := 1) nd rfl (.inr rfl) (pe_op op_cat (pv 1) (pe_lc (own := [("_law_name", 3)]) (g := gName 3) (by rfl) nd (pi_list (pe_cal G hr (by rfl) (pa_cons (pv 2) pa_nil))) (blkOk_by (own := [("_law_name", 3)]) (N := nLawNamesOf) (sc := defScope sLawNamesOf) (by decide +kernel)) (fun _ _ _ _ _ => pg_name (i := 3) nd rfl (Or.inl rfl))
          (fun _ _ _ _ _ => pts_one (pt_cmpR (r := rIn K true) op_notIn_seq (pv 3) (pv 1) rfl)) (fun _ _ _ _ _ => pv 3))))))
      (pss_one (ps_ret (pe_callB cr_sortedS (by rfl) B.sorted (by decide +kernel) (pa_cons (pv 1) pa_nil)))))), ?_⟩
    by_cases hi : ∃ x, r = .is x
    · obtain ⟨x, rfl⟩ := hi
      have hR : H t = some (.tup [.str "is", .str x]) := hR
      refine ⟨_, rfl, t, _, 0, _, rfl, rfl, SqT.of hR, atI_nat (j := 0) rfl, rfl, _, rfl, ite_yes ⟨_, rfl, t, _, 1, _, rfl, rfl, SqT.of hR, atI_nat (j := 1) rfl, (by show 1 ≤ sizeLine; decide), fun p np => ?_⟩⟩
      exact q p [x] _ (same_new np _) np upd_same (by simp) (fun n => by simp [KM.R.names])
    · obtain ⟨wd, ts, h1, h2, h3, h4, h5⟩ := rule_parts hR fun x e => hi ⟨x, e⟩
      have h32 := KM.R.names_32 hd6
      refine ⟨_, rfl, t, _, 0, _, rfl, rfl, SqT.of h1, atI_nat (j := 0) rfl, rfl, _, rfl, ite_no h2 ?_⟩
      refine ⟨Nat.zero_le _, fun o no => ?_⟩
      have s1 := same_new no (.lst [])
      refine ⟨_, rfl, 1, rfl, t, _, rfl, SqT.of (s1 _ _ h1), cut_no _ _, fun c nc => ?_⟩
      rw [cut_one]
      have s2 := same_new nc (.tup (ts.map V.ref))
      refine ⟨c, rfl, ⟨_, SqT.of upd_same⟩, for_tup (K := K) (a := c) (xs := ts.map V.ref) (fun i σ H' => ∃ (o' : Addr) (ks : List Str) (x2 : Option V), σ = [some (.ref t), some (.ref o'), x2, none] ∧ Same H H' ∧ H' o' = some (.lst (ks.map V.str)) ∧ ks.Nodup ∧ (∀ n, n ∈ ks ↔ n ∈ (r.parts.take i).flatMap KM.R.names) ∧ H' c = some (.tup (ts.map V.ref)) ∧ H o' = none) ?_ (fun i σ H' _ hP => ?_) (fun i x σ H' hx hP => ?_) fun σ H' hP => ?_⟩
      · exact ⟨o, [], none, rfl, s1.trans s2, s2 _ _ upd_same, .nil, by simp, upd_same, no⟩
      · obtain ⟨o', ks, x2, rfl, _, _, _, _, hc, _⟩ := hP
        exact SqT.of hc
      · obtain ⟨o', ks, x2, rfl, sm, ho, hkn, hkm, hc, no'⟩ := hP
        rw [List.getElem?_map] at hx
        cases ht : ts[i]? with
        | none =>
          rw [ht] at hx
          cases hx
        | some a =>
          rw [ht] at hx
          have ex : V.ref a = x := Option.some.inj hx
          subst ex
          obtain ⟨s, hs, ra⟩ := Paired.atL h3 ht
          obtain ⟨e1, e2⟩ := flat_take h4 hs
          have hds := h5 s (List.mem_of_getElem? hs)
          have hks : ks.length ≤ ((r.parts.take i).flatMap KM.R.names).length := KM.nodup_len hkn fun z hz => (hkm z).mp hz
          refine ⟨_, rfl, _, rfl, a, s, rfl, RuleAt.stay (Same.tups sm) ra, by omega, by omega, fun p ys H2 sp np hp hyn hym => ?_⟩
          have hpo : p ≠ o' := (ne_of_none ho np).symm
          have hyl : ys.length ≤ s.names.length := KM.nodup_len hyn fun z hz => (hym z).mp hz
          have ho2 : H2 o' = some (.lst (ks.map V.str)) := sp _ _ ho
          refine ⟨p, rfl, ⟨_, SqL.of hp⟩, fun D nD => lc_list (K := K) (a := p) (xs := ys.map V.str) (fun j H3 => ∃ zs : List Str, Same H2 H3 ∧ H3 D = some (.lst (zs.map V.str)) ∧ zs.Nodup ∧ zs.length ≤ j ∧ (∀ n, n ∈ zs ↔ n ∈ ys.take j ∧ n ∉ ks)) ?_ (fun j H3 _ hP => ?_) (fun j y H3 hy hP => ?_) fun H3 hP => ?_⟩
          · exact ⟨[], same_new nD _, upd_same, .nil, Nat.le_refl _, by simp⟩
          · obtain ⟨zs, sm3, _⟩ := hP
            exact SqL.of (sm3 _ _ hp)
          · obtain ⟨zs, sm3, hD, hzn, hzl, hzm⟩ := hP
            rw [List.getElem?_map] at hy
            cases hty : ys[j]? with
            | none =>
              rw [hty] at hy
              cases hy
            | some nm =>
              rw [hty] at hy
              have ey : V.str nm = y := Option.some.inj hy
              subst ey
              have hj : j < ys.length := (List.getElem?_eq_some_iff.mp hty).1
              have tk : ∀ z, z ∈ ys.take (j + 1) ↔ z ∈ ys.take j ∨ z = nm := fun z => by
                rw [List.take_add_one, hty]
                simp
              refine ⟨rfl, _, rfl, _, rfl, o', _, rfl, .inl (SqL.of (sm3 _ _ ho2)), rfl, flat_strs ks, _, rfl, ?_⟩
              refine ite2 (fun e => ?_) (fun e => ?_)
              · have e : (!inV (.str nm) (ks.map V.str)) = true := e
                rw [inV_str] at e
                have nk : nm ∉ ks := by simpa using e
                refine ⟨_, rfl, _, hD, by rw [List.length_map]; exact small1000 (by omega), zs ++ [nm], fun b u eb => ?_, ?_, ?_, by rw [List.length_append, List.length_singleton]; omega, fun z => ?_⟩
                · rw [upd_ne (ne_of_none eb nD)]
                  exact sm3 b u eb
                · rw [upd_same, List.map_append]
                  rfl
                · rw [List.nodup_append]
                  refine ⟨hzn, by simp, fun a1 ha1 b1 hb1 => ?_⟩
                  have eb : b1 = nm := by simpa using hb1
                  intro z
                  have h9 := ((hzm a1).mp ha1).1
                  rw [z, eb] at h9
                  obtain ⟨k, hk, ek⟩ := List.mem_take_iff_getElem.mp h9
                  have h10 : ys[k]? = ys[j]? := by
                    rw [hty, List.getElem?_eq_getElem (by omega)]
                    exact congrArg some ek
                  have := (List.getElem?_inj (by omega) hyn).mp h10
                  omega
                · rw [List.mem_append, hzm z, tk z, List.mem_singleton]
                  constructor
                  · rintro (⟨h7, h8⟩ | rfl)
                    · exact ⟨.inl h7, h8⟩
                    · exact ⟨.inr rfl, nk⟩
                  · rintro ⟨h7 | rfl, h8⟩
                    · exact .inl ⟨h7, h8⟩
                    · exact .inr rfl
              · have e : ¬ (!inV (.str nm) (ks.map V.str)) = true := e
                rw [inV_str] at e
                have nk : nm ∈ ks := by simpa using e
                refine ⟨zs, sm3, hD, hzn, Nat.le_succ_of_le hzl, fun z => ?_⟩
                rw [hzm z, tk z]
                constructor
                · rintro ⟨h7, h8⟩
                  exact ⟨.inl h7, h8⟩
                · rintro ⟨h7 | rfl, h8⟩
                  · exact ⟨h7, h8⟩
                  · exact absurd nk h8
          · obtain ⟨zs, sm3, hD, hzn, hzl, hzm⟩ := hP
            rw [List.length_map] at hzl hzm
            rw [List.take_length] at hzm
            refine ⟨o', D, _, _, rfl, rfl, sm3 _ _ ho2, hD, by rw [List.length_map, List.length_map]; exact small (by omega), fun z nz => ?_⟩
            have s3 := same_new nz (.lst (ks.map V.str ++ zs.map V.str))
            have sA := ((sm.trans sp).trans sm3)
            refine ⟨z, ks ++ zs, _, rfl, sA.trans s3, ?_, ?_, fun x => ?_, s3 _ _ (sm3 _ _ (sp _ _ hc)), sA.free nz⟩
            · rw [upd_same, List.map_append]
            · rw [List.nodup_append]
              refine ⟨hkn, hzn, fun a1 ha1 b1 hb1 e => ?_⟩
              rw [← e] at hb1
              exact ((hzm a1).mp hb1).2 ha1
            · rw [List.mem_append, hkm x, hzm x, e1, List.mem_append, hym x]
              constructor
              · rintro (h7 | ⟨h7, _⟩)
                · exact .inl h7
                · exact .inr h7
              · rintro (h7 | h7)
                · exact .inl h7
                · by_cases h8 : x ∈ ks
                  · exact .inl ((hkm x).mp h8)
                  · exact .inr ⟨h7, h8⟩
      · obtain ⟨o', ks, x2, rfl, sm, ho, hkn, hkm, hc, no'⟩ := hP
        rw [List.take_of_length_le (by rw [List.length_map, Paired.len h3]; exact Nat.le_refl _), ← h4] at hkm
        have hkl : ks.length ≤ r.names.length := KM.nodup_len hkn fun z hz => (hkm z).mp hz
        refine ⟨_, rfl, o', ks, rfl, SqL.of ho, by omega, fun ys p2 hy _ np2 => ?_⟩
        exact q p2 ys _ (sm.trans (same_new np2 _)) (sm.free np2) upd_same (hy.nodup_iff.mpr hkn) fun z => (hy.mem_iff).trans (hkm z)
end
end K27
end
section
set_option maxHeartbeats 4000000
/-! all facts over some names -/
namespace K27
open PySem PySem.Spec PyProof.Rows L2
theorem FactsAt.keep {H H' : Hp} (e : Same H H') {a : Addr} {f : List Lit} (h : FactsAt H a f) : FactsAt H' a f := e _ _ h
def spAF : Sp := fun vs H Q _ => ∃ (a : Addr) (names : List Str), vs = [.ref a] ∧ H a = some (.lst (names.map V.str)) ∧ names.Nodup ∧ names.length ≤ 5 ∧
  ∀ (p : Addr) (ys : List Str) (ds : List Addr) (H' : Hp), Same H H' → H p = none → ys.Perm names → H' p = some (.lst (ds.map V.ref)) → Paired (FactsAt H') ds (KM.allF ys) → Q (.ref p) H'
theorem put_new {f : List Lit} {n : Str} (b : Bool) (h : n ∉ f.map (·.1)) : putK (kvs f) (Sum.inr n : Key) (V.bl b) = kvs (f ++ [(n, b)]) := by
  have no : ∀ g : List Lit, n ∉ g.map (·.1) → g.lookup n = none := by
    intro g
    induction g with
    | nil => intro _; rfl
    | cons p g ih =>
      intro hg
      obtain ⟨m, c⟩ := p
      have h3 : n ≠ m ∧ n ∉ g.map (·.1) := by
        simp only [List.map_cons, List.mem_cons, not_or] at hg
        exact hg
      rw [List.lookup_cons, beq_eq_false_iff_ne.mpr h3.1]
      exact ih h3.2
  have hv : valV (kvs f) (Sum.inr n : Key) = none := by
    rw [valV_kvs, no f h]
    rfl
  rw [putK_new _ hv]
  unfold kvs
  rw [List.map_append]
  rfl
theorem pow5 {n : Nat} (h : n ≤ 5) : 2 ^ n ≤ 32 := Nat.le_trans (Nat.pow_le_pow_right (by decide) h) (by decide)
theorem grow_take {rows : List (List Lit)} {j : Nat} {f : List Lit} {n : Str} (h : rows[j]? = some f) : KM.grow (rows.take (j + 1)) n = KM.grow (rows.take j) n ++ [f ++ [(n, false)], f ++ [(n, true)]] := by
  unfold KM.grow
  rw [List.take_add_one, h, List.flatMap_append]
  simp
theorem allF_take {ys : List Str} {i : Nat} {n : Str} (h : ys[i]? = some n) : KM.allF (ys.take (i + 1)) = KM.grow (KM.allF (ys.take i)) n := by
  unfold KM.allF KM.allFrom
  rw [List.take_add_one, h, List.foldl_append]
  rfl
theorem take_new {ys : List Str} (hn : ys.Nodup) {i : Nat} {n : Str} (h : ys[i]? = some n) : n ∉ ys.take i := fun hm => by
  obtain ⟨k, hk, ek⟩ := List.mem_take_iff_getElem.mp hm
  have hi : i < ys.length := (List.getElem?_eq_some_iff.mp h).1
  have h10 : ys[k]? = ys[i]? := by
    rw [h, List.getElem?_eq_getElem (by omega)]
    exact congrArg some ek
  have := (List.getElem?_inj (by omega) hn).mp h10
  omega
section
variable {P : Program} {w : World} {K : PySem.W.Frag} {mg : Str → Option Value} {base : Heap} {f : Addr} {fd : FuncData}
theorem ok_af (F : FnP K "all_facts" sAllFacts f fd) (B : Blt mg) : FnOk P w K mg base CX0 1 f fd ["names"] spAF := by
  have nd := cAllFacts.nd
  refine F.okn cAllFacts (fun vs H Q E h => ?_) (fun cdv A outer s H vs Q E hr h => ?_)
  · obtain ⟨a, names, rfl, _⟩ := h
    rfl
  · obtain ⟨a, names, rfl, ha, hnd, hn5, q⟩ := h
    have hu := hu_of hr
    refine ⟨_, pss_cons (ps_set (i := 1) nd rfl (.inl rfl) (pe_lst (pa_cons pe_dnewK pa_nil)))
      (pss_cons (ps_for PassesOwn.never rfl (pi_list (pe_callB cr_sortedS (by rfl) B.sorted (by decide +kernel) (pa_cons (pv 0) pa_nil))) (pg_name (i := 2) nd rfl (Or.inl rfl))
        (pss_cons (ps_set (i := 3) nd rfl (.inl rfl) (pe_lst pa_nil))
        (pss_cons (ps_for PassesOwn.never rfl (pi_list (pv 1)) (pg_name (i := 4) nd rfl (Or.inl rfl))
          (pss_one (ps_for PassesOwn.never rfl (pi_tup (pe_tup (pa_cons pe_bl (pa_cons pe_bl pa_nil)))) (pg_name (i := 5) nd rfl (Or.inl rfl))
            (pss_cons (ps_set (i := 6) nd rfl (.inl rfl) (pe_callTy call_dictD (by rfl) B.dct (by decide +kernel) (pa_cons (pv 4) pa_nil)))
            (pss_cons (ps_dput hu (pv 6) (pv 2) (pv 5) rfl)
            (pss_one (ps_expr (pe_bm PySem.F.plainAttrs_list PySem.F.slot_list_append PySem.F.type_list_append mt_append (pv 3) (pa_cons (pv 6) pa_nil)))))))))
        (pss_one (ps_set (i := 1) nd rfl (.inl rfl) (pv 3))))))
      (pss_one (ps_ret (pv 1)))), ?_⟩
    intro d0 nd0
    have s0 := same_new nd0 (.dK [])
    refine ⟨(by show 1 ≤ sizeLine; decide), fun o no => ?_⟩
    have s1 := s0.trans (same_new no (.lst [.ref d0]))
    have od : o ≠ d0 := (ne_of_none upd_same no).symm
    -- the loop over the names
    refine ⟨_, rfl, a, names, rfl, SqL.of (s1 _ _ ha), by omega, fun ys sl hp _ nsl => ?_⟩
    have sm0 := same_new nsl (.lst (ys.map V.str))
    have hsl : SqL K (upd (upd (upd H d0 (.dK [])) o (.lst [.ref d0])) sl (.lst (ys.map V.str))) sl (ys.map V.str) := SqL.of upd_same
    generalize upd (upd (upd H d0 (.dK [])) o (.lst [.ref d0])) sl (.lst (ys.map V.str)) = H1 at sm0 hsl ⊢
    refine ⟨sl, rfl, ⟨_, hsl⟩, for_list (K := K) (a := sl) (xs := ys.map V.str) (fun i σ H' => ∃ (o' : Addr) (ds : List Addr) (x2 x3 x4 x5 x6 : Option V), σ = [some (.ref a), some (.ref o'), x2, x3, x4, x5, x6] ∧ Same H H' ∧ Same H1 H' ∧ H' o' = some (.lst (ds.map V.ref)) ∧ Paired (FactsAt H') ds (KM.allF (ys.take i)) ∧ H o' = none) ?_ (fun i σ H' _ hP => ?_) (fun i x σ H' hx hP => ?_) fun σ H' hP => ?_⟩
    · exact ⟨o, [d0], none, none, none, none, none, rfl, s1.trans sm0, Same.refl _, sm0 _ _ upd_same, .cons (sm0 _ _ (by rw [upd_ne od.symm]; exact upd_same)) .nil, s0.free no⟩
    · obtain ⟨o', ds, x2, x3, x4, x5, x6, rfl, _, smH, _⟩ := hP
      exact smH.seq hsl
    · obtain ⟨o', ds, x2, x3, x4, x5, x6, rfl, sm, smH, ho, hds, no'⟩ := hP
      rw [List.getElem?_map] at hx
      cases hty : ys[i]? with
      | none =>
        rw [hty] at hx
        cases hx
      | some nm =>
        rw [hty] at hx
        have ex : V.str nm = x := Option.some.inj hx
        subst ex
        have hysn : ys.Nodup := hp.nodup_iff.mpr hnd
        have hnew := take_new hysn hty
        have hilt : i < ys.length := (List.getElem?_eq_some_iff.mp hty).1
        have hyl : ys.length ≤ 5 := by
          rw [hp.length_eq]
          exact hn5
        have hrl : (KM.allF (ys.take i)).length ≤ 32 := by
          rw [KM.allF_len]
          exact pow5 (by rw [List.length_take]; omega)
        refine ⟨Nat.zero_le _, fun l nl => ?_⟩
        have sl1 := same_new nl (.lst [])
        refine ⟨_, rfl, o', rfl, ⟨_, SqL.of (sl1 _ _ ho)⟩, for_list (K := K) (a := o') (xs := ds.map V.ref) (fun j σ H2 => ∃ (es : List Addr) (y4 y5 y6 : Option V), σ = [some (.ref a), some (.ref o'), some (.str nm), some (.ref l), y4, y5, y6] ∧ Same H' H2 ∧ H2 l = some (.lst (es.map V.ref)) ∧ Paired (FactsAt H2) es (KM.grow ((KM.allF (ys.take i)).take j) nm)) ?_ (fun j σ H2 _ hP => ?_) (fun j y σ H2 hy hP => ?_) fun σ H2 hP => ?_⟩
        · exact ⟨[], x4, x5, x6, rfl, sl1, upd_same, .nil⟩
        · obtain ⟨es, y4, y5, y6, rfl, sm2, _⟩ := hP
          exact SqL.of (sm2 _ _ ho)
        · obtain ⟨es, y4, y5, y6, rfl, sm2, hl, hes⟩ := hP
          rw [List.getElem?_map] at hy
          cases htd : ds[j]? with
          | none =>
            rw [htd] at hy
            cases hy
          | some dj =>
            rw [htd] at hy
            have ey : V.ref dj = y := Option.some.inj hy
            subst ey
            obtain ⟨fj, hfj, hdj⟩ := Paired.atL hds htd
            have hjl : j < (KM.allF (ys.take i)).length := (List.getElem?_eq_some_iff.mp hfj).1
            have hfk : nm ∉ fj.map (·.1) := by
              rw [KM.allF_out (List.mem_of_getElem? hfj)]
              exact hnew
            refine ⟨(by show 2 ≤ sizeLine; decide), fun T nT => ?_⟩
            have sT := same_new nT (.tup [.bl false, .bl true])
            refine ⟨T, rfl, ⟨_, SqT.of upd_same⟩, for_tup (K := K) (a := T) (xs := [.bl false, .bl true]) (fun k σ H3 => ∃ (es' : List Addr) (y5 y6 : Option V), σ = [some (.ref a), some (.ref o'), some (.str nm), some (.ref l), some (.ref dj), y5, y6] ∧ Same H' H3 ∧ H3 T = some (.tup [.bl false, .bl true]) ∧ H3 l = some (.lst (es'.map V.ref)) ∧ Paired (FactsAt H3) es' (KM.grow ((KM.allF (ys.take i)).take j) nm ++ [fj ++ [(nm, false)], fj ++ [(nm, true)]].take k)) ?_ (fun k σ H3 _ hP => ?_) (fun k z σ H3 hz hP => ?_) fun σ H3 hP => ?_⟩
            · exact ⟨es, _, _, rfl, sm2.trans sT, upd_same, sT _ _ hl, by simpa using Paired.mapP hes fun _ _ h => h.keep sT⟩
            · obtain ⟨es', z5, z6, rfl, _, hT, _⟩ := hP
              exact SqT.of hT
            · obtain ⟨es', z5, z6, rfl, sm3, hT, hl3, hes3⟩ := hP
              have hk2 : k < 2 := (List.getElem?_eq_some_iff.mp hz).1
              obtain ⟨b, hb, hbk⟩ : ∃ b, z = V.bl b ∧ [fj ++ [(nm, false)], fj ++ [(nm, true)]][k]? = some (fj ++ [(nm, b)]) := by
                have h01 : k = 0 ∨ k = 1 := by omega
                rcases h01 with rfl | rfl
                · exact ⟨false, (Option.some.inj hz).symm, rfl⟩
                · exact ⟨true, (Option.some.inj hz).symm, rfl⟩
              subst hb
              have hfl : (kvs fj).length ≤ 5 := by
                unfold kvs
                rw [List.length_map]
                have h1 := congrArg List.length (KM.allF_out (List.mem_of_getElem? hfj))
                rw [List.length_map, List.length_take] at h1
                omega
              refine ⟨_, rfl, dj, kvs fj, rfl, Rd.of (sm3 _ _ hdj), fun m nm' => ?_⟩
              have sm4 := same_new nm' (.dK (kvs fj))
              refine ⟨_, rfl, _, rfl, _, rfl, m, _, rfl, DPut.k (k := Sum.inr nm) upd_same (small1000 (by omega)), ?_⟩
              rw [put_new b hfk, upd_upd]
              have sm5 := same_new nm' (.dK (kvs (fj ++ [(nm, b)])))
              have hml : l ≠ m := ne_of_none hl3 nm'
              have hesl : es'.length ≤ 100 := by
                rw [Paired.len hes3, List.length_append, KM.grow_len, List.length_take, List.length_take]
                have : [fj ++ [(nm, false)], fj ++ [(nm, true)]].length = 2 := rfl
                omega
              refine ⟨_, rfl, .inl ⟨rfl, _, SqL.of (sm5 _ _ hl3)⟩, _, rfl, l, _, _, rfl, rfl, sm5 _ _ hl3, by rw [List.length_map]; exact small1000 (by omega), ?_⟩
              refine ⟨es' ++ [m], _, _, rfl, fun b' u eb => ?_, ?_, ?_, ?_⟩
              · rw [upd_ne (ne_of_none eb nl)]
                exact sm5 _ _ (sm3 _ _ eb)
              · rw [upd_ne (ne_of (sm5 _ _ hT) (sm5 _ _ hl3) (by intro z; cases z))]
                exact sm5 _ _ hT
              · rw [upd_same, List.map_append]
                rfl
              · rw [List.take_add_one, hbk, ← List.append_assoc]
                have keepF : ∀ (d : Addr) (g : List Lit), FactsAt H3 d g → FactsAt (upd (upd H3 m (.dK (kvs (fj ++ [(nm, b)])))) l (.lst (es'.map V.ref ++ [.ref m]))) d g := fun d g hg => by
                  show upd _ l _ d = _
                  rw [upd_ne (ne_of hg hl3 (by intro z; cases z))]
                  exact sm5 _ _ hg
                refine Paired.app (Paired.mapP hes3 keepF) (.cons ?_ .nil)
                show upd _ l _ m = _
                rw [upd_ne hml.symm]
                exact upd_same
            · obtain ⟨es', z5, z6, rfl, sm3, hT, hl3, hes3⟩ := hP
              refine ⟨es', _, _, _, rfl, sm3, hl3, ?_⟩
              rw [grow_take hfj]
              exact hes3
        · obtain ⟨es, y4, y5, y6, rfl, sm2, hl, hes⟩ := hP
          have hfull : (KM.allF (ys.take i)).take (ds.map V.ref).length = KM.allF (ys.take i) := List.take_of_length_le (by rw [List.length_map, Paired.len hds]; exact Nat.le_refl _)
          rw [hfull] at hes
          refine ⟨_, rfl, l, es, _, _, _, _, _, rfl, sm.trans sm2, smH.trans sm2, hl, ?_, sm.free nl⟩
          rw [allF_take hty]
          exact hes
    · obtain ⟨o', ds, x2, x3, x4, x5, x6, rfl, sm, smH, ho, hds, no'⟩ := hP
      rw [List.take_of_length_le (by rw [List.length_map]; exact Nat.le_refl _)] at hds
      exact ⟨_, rfl, q o' ys ds H' sm no' hp ho hds⟩
theorem ok_laf (F : FnP K "_law_all_facts" sLawAllFacts f fd) (B : Blt mg) : FnOk P w K mg base CX0 1 f fd ["_law_names_here"] spAF := by
  have nd := cLawAllFacts.nd
  refine F.okn cLawAllFacts (fun vs H Q E h => ?_) (fun cdv A outer s H vs Q E hr h => ?_)
  · obtain ⟨a, names, rfl, _⟩ := h
    rfl
  · obtain ⟨a, names, rfl, ha, hnd, hn5, q⟩ := h
    have hu := hu_of hr
    refine ⟨_, pss_cons (ps_set (i := 1) nd rfl (.inl rfl) (pe_lst (pa_cons pe_dnewK pa_nil)))
      (pss_cons (ps_for PassesOwn.never rfl (pi_list (pv 0)) (pg_name (i := 2) nd rfl (Or.inl rfl))
        (pss_cons (ps_set (i := 3) nd rfl (.inl rfl) (pe_lst pa_nil))
        (pss_cons (ps_for PassesOwn.never rfl (pi_list (pv 1)) (pg_name (i := 4) nd rfl (Or.inl rfl))
          (pss_one (ps_for PassesOwn.never rfl (pi_tup (pe_tup (pa_cons pe_bl (pa_cons pe_bl pa_nil)))) (pg_name (i := 5) nd rfl (Or.inl rfl))
            (pss_cons (ps_set (i := 6) nd rfl (.inl rfl) (pe_callTy call_dictD (by rfl) B.dct (by decide +kernel) (pa_cons (pv 4) pa_nil)))
            (pss_cons (ps_dput hu (pv 6) (pv 2) (pv 5) rfl)
            (pss_one (ps_expr (pe_bm PySem.F.plainAttrs_list PySem.F.slot_list_append PySem.F.type_list_append mt_append (pv 3) (pa_cons (pv 6) pa_nil)))))))))
        (pss_one (ps_set (i := 1) nd rfl (.inl rfl) (pv 3))))))
      (pss_one (ps_ret (pv 1)))), ?_⟩
    intro d0 nd0
    have s0 := same_new nd0 (.dK [])
    refine ⟨(by show 1 ≤ sizeLine; decide), fun o no => ?_⟩
    have s1 := s0.trans (same_new no (.lst [.ref d0]))
    have od : o ≠ d0 := (ne_of_none upd_same no).symm
    -- the loop over the names
    refine ⟨_, rfl, ?_⟩
    obtain ⟨sl, esl⟩ : ∃ sl, sl = a := ⟨_, rfl⟩
    obtain ⟨ys, eys⟩ : ∃ ys, ys = names := ⟨_, rfl⟩
    have hp : ys.Perm names := by rw [eys]
    obtain ⟨H1, eH1⟩ : ∃ H1, upd (upd H d0 (.dK [])) o (.lst [.ref d0]) = H1 := ⟨_, rfl⟩
    have sm0 : Same (upd (upd H d0 (.dK [])) o (.lst [.ref d0])) H1 := by rw [eH1]; exact Same.refl _
    have hsl : SqL K H1 sl (ys.map V.str) := by rw [esl, eys]; exact SqL.of (sm0 _ _ (s1 _ _ ha))
    rw [eH1]
    refine ⟨sl, (by rw [esl]), ⟨_, hsl⟩, for_list (K := K) (a := sl) (xs := ys.map V.str) (fun i σ H' => ∃ (o' : Addr) (ds : List Addr) (x2 x3 x4 x5 x6 : Option V), σ = [some (.ref a), some (.ref o'), x2, x3, x4, x5, x6] ∧ Same H H' ∧ Same H1 H' ∧ H' o' = some (.lst (ds.map V.ref)) ∧ Paired (FactsAt H') ds (KM.allF (ys.take i)) ∧ H o' = none) ?_ (fun i σ H' _ hP => ?_) (fun i x σ H' hx hP => ?_) fun σ H' hP => ?_⟩
    · exact ⟨o, [d0], none, none, none, none, none, rfl, s1.trans sm0, Same.refl _, sm0 _ _ upd_same, .cons (sm0 _ _ (by rw [upd_ne od.symm]; exact upd_same)) .nil, s0.free no⟩
    · obtain ⟨o', ds, x2, x3, x4, x5, x6, rfl, _, smH, _⟩ := hP
      exact smH.seq hsl
    · obtain ⟨o', ds, x2, x3, x4, x5, x6, rfl, sm, smH, ho, hds, no'⟩ := hP
      rw [List.getElem?_map] at hx
      cases hty : ys[i]? with
      | none =>
        rw [hty] at hx
        cases hx
      | some nm =>
        rw [hty] at hx
        have ex : V.str nm = x := Option.some.inj hx
        subst ex
        have hysn : ys.Nodup := hp.nodup_iff.mpr hnd
        have hnew := take_new hysn hty
        have hilt : i < ys.length := (List.getElem?_eq_some_iff.mp hty).1
        have hyl : ys.length ≤ 5 := by
          rw [hp.length_eq]
          exact hn5
        have hrl : (KM.allF (ys.take i)).length ≤ 32 := by
          rw [KM.allF_len]
          exact pow5 (by rw [List.length_take]; omega)
        refine ⟨Nat.zero_le _, fun l nl => ?_⟩
        have sl1 := same_new nl (.lst [])
        refine ⟨_, rfl, o', rfl, ⟨_, SqL.of (sl1 _ _ ho)⟩, for_list (K := K) (a := o') (xs := ds.map V.ref) (fun j σ H2 => ∃ (es : List Addr) (y4 y5 y6 : Option V), σ = [some (.ref a), some (.ref o'), some (.str nm), some (.ref l), y4, y5, y6] ∧ Same H' H2 ∧ H2 l = some (.lst (es.map V.ref)) ∧ Paired (FactsAt H2) es (KM.grow ((KM.allF (ys.take i)).take j) nm)) ?_ (fun j σ H2 _ hP => ?_) (fun j y σ H2 hy hP => ?_) fun σ H2 hP => ?_⟩
        · exact ⟨[], x4, x5, x6, rfl, sl1, upd_same, .nil⟩
        · obtain ⟨es, y4, y5, y6, rfl, sm2, _⟩ := hP
          exact SqL.of (sm2 _ _ ho)
        · obtain ⟨es, y4, y5, y6, rfl, sm2, hl, hes⟩ := hP
          rw [List.getElem?_map] at hy
          cases htd : ds[j]? with
          | none =>
            rw [htd] at hy
            cases hy
          | some dj =>
            rw [htd] at hy
            have ey : V.ref dj = y := Option.some.inj hy
            subst ey
            obtain ⟨fj, hfj, hdj⟩ := Paired.atL hds htd
            have hjl : j < (KM.allF (ys.take i)).length := (List.getElem?_eq_some_iff.mp hfj).1
            have hfk : nm ∉ fj.map (·.1) := by
              rw [KM.allF_out (List.mem_of_getElem? hfj)]
              exact hnew
            refine ⟨(by show 2 ≤ sizeLine; decide), fun T nT => ?_⟩
            have sT := same_new nT (.tup [.bl false, .bl true])
            refine ⟨T, rfl, ⟨_, SqT.of upd_same⟩, for_tup (K := K) (a := T) (xs := [.bl false, .bl true]) (fun k σ H3 => ∃ (es' : List Addr) (y5 y6 : Option V), σ = [some (.ref a), some (.ref o'), some (.str nm), some (.ref l), some (.ref dj), y5, y6] ∧ Same H' H3 ∧ H3 T = some (.tup [.bl false, .bl true]) ∧ H3 l = some (.lst (es'.map V.ref)) ∧ Paired (FactsAt H3) es' (KM.grow ((KM.allF (ys.take i)).take j) nm ++ [fj ++ [(nm, false)], fj ++ [(nm, true)]].take k)) ?_ (fun k σ H3 _ hP => ?_) (fun k z σ H3 hz hP => ?_) fun σ H3 hP => ?_⟩
            · exact ⟨es, _, _, rfl, sm2.trans sT, upd_same, sT _ _ hl, by simpa using Paired.mapP hes fun _ _ h => h.keep sT⟩
            · obtain ⟨es', z5, z6, rfl, _, hT, _⟩ := hP
              exact SqT.of hT
            · obtain ⟨es', z5, z6, rfl, sm3, hT, hl3, hes3⟩ := hP
              have hk2 : k < 2 := (List.getElem?_eq_some_iff.mp hz).1
              obtain ⟨b, hb, hbk⟩ : ∃ b, z = V.bl b ∧ [fj ++ [(nm, false)], fj ++ [(nm, true)]][k]? = some (fj ++ [(nm, b)]) := by
                have h01 : k = 0 ∨ k = 1 := by omega
                rcases h01 with rfl | rfl
                · exact ⟨false, (Option.some.inj hz).symm, rfl⟩
                · exact ⟨true, (Option.some.inj hz).symm, rfl⟩
              subst hb
              have hfl : (kvs fj).length ≤ 5 := by
                unfold kvs
                rw [List.length_map]
                have h1 := congrArg List.length (KM.allF_out (List.mem_of_getElem? hfj))
                rw [List.length_map, List.length_take] at h1
                omega
              refine ⟨_, rfl, dj, kvs fj, rfl, Rd.of (sm3 _ _ hdj), fun m nm' => ?_⟩
              have sm4 := same_new nm' (.dK (kvs fj))
              refine ⟨_, rfl, _, rfl, _, rfl, m, _, rfl, DPut.k (k := Sum.inr nm) upd_same (small1000 (by omega)), ?_⟩
              rw [put_new b hfk, upd_upd]
              have sm5 := same_new nm' (.dK (kvs (fj ++ [(nm, b)])))
              have hml : l ≠ m := ne_of_none hl3 nm'
              have hesl : es'.length ≤ 100 := by
                rw [Paired.len hes3, List.length_append, KM.grow_len, List.length_take, List.length_take]
                have : [fj ++ [(nm, false)], fj ++ [(nm, true)]].length = 2 := rfl
                omega
              refine ⟨_, rfl, .inl ⟨rfl, _, SqL.of (sm5 _ _ hl3)⟩, _, rfl, l, _, _, rfl, rfl, sm5 _ _ hl3, by rw [List.length_map]; exact small1000 (by omega), ?_⟩
              refine ⟨es' ++ [m], _, _, rfl, fun b' u eb => ?_, ?_, ?_, ?_⟩
              · rw [upd_ne (ne_of_none eb nl)]
                exact sm5 _ _ (sm3 _ _ eb)
              · rw [upd_ne (ne_of (sm5 _ _ hT) (sm5 _ _ hl3) (by intro z; cases z))]
                exact sm5 _ _ hT
              · rw [upd_same, List.map_append]
                rfl
              · rw [List.take_add_one, hbk, ← List.append_assoc]
                have keepF : ∀ (d : Addr) (g : List Lit), FactsAt H3 d g → FactsAt (upd (upd H3 m (.dK (kvs (fj ++ [(nm, b)])))) l (.lst (es'.map V.ref ++ [.ref m]))) d g := fun d g hg => by
                  show upd _ l _ d = _
                  rw [upd_ne (ne_of hg hl3 (by intro z; cases z))]
                  exact sm5 _ _ hg
                refine Paired.app (Paired.mapP hes3 keepF) (.cons ?_ .nil)
                show upd _ l _ m = _
                rw [upd_ne hml.symm]
                exact upd_same
            · obtain ⟨es', z5, z6, rfl, sm3, hT, hl3, hes3⟩ := hP
              refine ⟨es', _, _, _, rfl, sm3, hl3, ?_⟩
              rw [grow_take hfj]
              exact hes3
        · obtain ⟨es, y4, y5, y6, rfl, sm2, hl, hes⟩ := hP
          have hfull : (KM.allF (ys.take i)).take (ds.map V.ref).length = KM.allF (ys.take i) := List.take_of_length_le (by rw [List.length_map, Paired.len hds]; exact Nat.le_refl _)
          rw [hfull] at hes
          refine ⟨_, rfl, l, es, _, _, _, _, _, rfl, sm.trans sm2, smH.trans sm2, hl, ?_, sm.free nl⟩
          rw [allF_take hty]
          exact hes
    · obtain ⟨o', ds, x2, x3, x4, x5, x6, rfl, sm, smH, ho, hds, no'⟩ := hP
      rw [List.take_of_length_le (by rw [List.length_map]; exact Nat.le_refl _)] at hds
      exact ⟨_, rfl, q o' ys ds H' sm no' hp ho hds⟩
end
end K27
end
section
set_option maxHeartbeats 4000000
/-! holds, rows_under, stands_in -/
namespace K27
open PySem PySem.Spec PyProof.Rows L2
def spH : Sp := fun vs H Q _ => ∃ (t a : Addr) (r : Rl) (f : List Lit), vs = [.ref t, .ref a] ∧ RuleAt H r t ∧ FactsAt H a f ∧ Has f r ∧ r.depth ≤ 6 ∧ ∀ H', Same H H' → Q (.bl (r.ev (KM.val f))) H'
/-- at most five names -/
def Few (r : Rl) : Prop := ∃ names : List Str, names.length ≤ 5 ∧ ∀ n ∈ r.names, n ∈ names
theorem Few.le {r : Rl} (h : Few r) {ys : List Str} (hn : ys.Nodup) (hs : ∀ n ∈ ys, n ∈ r.names) : ys.length ≤ 5 := by
  obtain ⟨names, h1, h2⟩ := h
  exact Nat.le_trans (KM.nodup_len hn fun x hx => h2 x (hs x hx)) h1
theorem has_of {r : Rl} {ys : List Str} {f : List Lit} (h : f ∈ KM.allF ys) (hm : ∀ n, n ∈ r.names → n ∈ ys) : Has f r := fun n hn => by
  have h1 := KM.allF_out h
  exact ⟨_, KM.look_some (by rw [h1]; exact hm n hn)⟩
def spRows : Sp := fun vs H Q _ => ∃ (t : Addr) (r : Rl), vs = [.ref t] ∧ RuleAt H r t ∧ r.depth ≤ 6 ∧ Few r ∧
  ∀ (p : Addr) (ys : List Str) (ds : List Addr) (H' : Hp), Same H H' → H p = none → ys.Nodup → (∀ n, n ∈ ys ↔ n ∈ r.names) → H' p = some (.lst (ds.map V.ref)) → Paired (FactsAt H') ds (KM.rowsU r ys) → Q (.ref p) H'
section
variable {P : Program} {w : World} {K : PySem.W.Frag} {mg : Str → Option Value} {base : Heap} {f : Addr} {fd : FuncData}
theorem ok_h (F : FnP K "holds" sHolds f fd) (NM : Cal P w K mg base 7 "names_of" ["rule"] spNm) (HU : Cal P w K mg base 6 "holds_under" ["rule", "facts"] (spHolds 6)) : FnOk P w K mg base CX0 8 f fd ["rule", "facts"] spH := by
  have nd := cHolds.nd
  refine F.okn cHolds (fun vs H Q E h => ?_) (fun cdv A outer s H vs Q E hr h => ?_)
  · obtain ⟨t, a, r, f, rfl, _⟩ := h
    rfl
  · obtain ⟨t, a, r, fc, rfl, hR, hF, hH, hd, q⟩ := h
    have hu := hu_of hr
    refine ⟨_, pss_cons (ps_for PassesOwn.never rfl (pi_list (pe_cal NM hr (by rfl) (pa_cons (pv 0) pa_nil))) (pg_name (i := 2) nd rfl (Or.inl rfl))
        (pss_one (ps_if (pt_cmp (pc_dnotin hu (pv 2) (pv 1)) rfl) (pss_one ps_never) pss_nil)))
      (pss_one (ps_ret (pe_cal HU (hr.mono (by decide)) (by rfl) (pa_cons (pv 0) (pa_cons (pv 1) pa_nil))))), ?_⟩
    refine ⟨_, rfl, t, r, rfl, hR, hd, fun p ys H1 sm np hp hyn hym hys => ?_⟩
    refine ⟨p, rfl, ⟨_, SqL.of hp⟩, for_list (K := K) (a := p) (xs := ys.map V.str) (fun i σ H' => ∃ x2 : Option V, σ = [some (.ref t), some (.ref a), x2] ∧ H1 = H') ⟨_, rfl, rfl⟩ (fun i σ H' _ hP => ?_) (fun i x σ H' hx hP => ?_) fun σ H' hP => ?_⟩
    · obtain ⟨x2, rfl, rfl⟩ := hP
      exact SqL.of hp
    · obtain ⟨x2, rfl, rfl⟩ := hP
      rw [List.getElem?_map] at hx
      cases ht : ys[i]? with
      | none =>
        rw [ht] at hx
        cases hx
      | some nm =>
        rw [ht] at hx
        have ex : V.str nm = x := Option.some.inj hx
        subst ex
        obtain ⟨b, hb⟩ := hH nm ((hym nm).mp (List.mem_of_getElem? ht))
        have hg := facts_get (FactsAt.keep sm hF) nm
        rw [hb] at hg
        exact ⟨_, rfl, _, rfl, a, _, rfl, hg, _, rfl, iteF ⟨_, rfl, rfl⟩⟩
    · obtain ⟨x2, rfl, rfl⟩ := hP
      exact ⟨_, rfl, _, rfl, t, a, r, fc, rfl, RuleAt.stay (Same.tups sm) hR, FactsAt.keep sm hF, hH, hd, q H1 sm⟩
theorem ok_rows (F : FnP K "rows_under" sRowsUnder f fd) (NM : Cal P w K mg base 7 "names_of" ["rule"] spNm) (AF : Cal P w K mg base 1 "all_facts" ["names"] spAF) (HO : Cal P w K mg base 8 "holds" ["rule", "facts"] spH) : FnOk P w K mg base CX0 9 f fd ["rule"] spRows := by
  have nd := cRowsUnder.nd
  refine F.okn cRowsUnder (fun vs H Q E h => ?_) (fun cdv A outer s H vs Q E hr h => ?_)
  · obtain ⟨t, r, rfl, _⟩ := h
    rfl
  · obtain ⟨t, r, rfl, hR, hd, hfew, q⟩ := h
    refine ⟨_, pss_one (ps_ret (pe_lc (own := [("facts", 1)]) (g := gName 1) (by rfl) nd (pi_list (pe_cal AF (hr.mono (by decide)) (by rfl) (pa_cons (pe_cal NM (hr.mono (by decide)) (by rfl) (pa_cons (pv 0) pa_nil)) pa_nil))) (blkOk_by (own := [("facts", 1)]) (N := nRowsUnder) (sc := defScope sRowsUnder) (by decide +kernel)) (fun _ _ _ _ _ => pg_name (i := 1) nd rfl (Or.inl rfl))
          (fun _ _ _ _ _ => pts_one (pt_val (pe_cal HO hr (by rfl) (pa_cons (pv 0) (pa_cons (pv 1) pa_nil))))) (fun _ _ _ _ _ => pv 1))), ?_⟩
    refine ⟨_, rfl, t, r, rfl, hR, hd, fun p ns H1 sm np hp hnn hnm _ => ?_⟩
    have h5 := hfew.le hnn fun n hn => (hnm n).mp hn
    refine ⟨p, ns, rfl, hp, hnn, h5, fun p2 ys ds H2 sm2 np2 hy hp2 hds => ?_⟩
    have hyn : ys.Nodup := hy.nodup_iff.mpr hnn
    have hym : ∀ n, n ∈ ys ↔ n ∈ r.names := fun n => (hy.mem_iff).trans (hnm n)
    have hlen : ds.length ≤ 32 := by
      rw [Paired.len hds, KM.allF_len]
      exact pow5 (by rw [hy.length_eq]; exact h5)
    have s02 := sm.trans sm2
    refine ⟨p2, rfl, ⟨_, SqL.of hp2⟩, fun D nD => lc_list (K := K) (a := p2) (xs := ds.map V.ref) (fun j H3 => ∃ es : List Addr, Same H2 H3 ∧ H3 D = some (.lst (es.map V.ref)) ∧ Paired (FactsAt H3) es (((KM.allF ys).take j).filter fun f => r.ev (KM.val f))) ?_ (fun j H3 _ hP => ?_) (fun j y H3 hy' hP => ?_) fun H3 hP => ?_⟩
    · exact ⟨[], same_new nD _, upd_same, .nil⟩
    · obtain ⟨es, sm3, _⟩ := hP
      exact SqL.of (sm3 _ _ hp2)
    · obtain ⟨es, sm3, hD, hes⟩ := hP
      rw [List.getElem?_map] at hy'
      cases htd : ds[j]? with
      | none =>
        rw [htd] at hy'
        cases hy'
      | some dj =>
        rw [htd] at hy'
        have ey : V.ref dj = y := Option.some.inj hy'
        subst ey
        obtain ⟨fj, hfj, hdj⟩ := Paired.atL hds htd
        have hH : Has fj r := has_of (List.mem_of_getElem? hfj) fun n hn => (hym n).mpr hn
        refine ⟨rfl, _, rfl, _, rfl, t, dj, r, fj, rfl, RuleAt.stay (Same.tups (s02.trans sm3)) hR, FactsAt.keep sm3 hdj, hH, hd, fun H4 sm4 => ⟨_, rfl, ?_⟩⟩
        have etk : (KM.allF ys).take (j + 1) = (KM.allF ys).take j ++ [fj] := by
          rw [List.take_add_one, hfj]
          rfl
        have hel : es.length ≤ 100 := by
          rw [Paired.len hes]
          refine Nat.le_trans (List.length_filter_le _ _) ?_
          rw [List.length_take]
          have := Paired.len hds
          omega
        cases ev : r.ev (KM.val fj) with
        | true =>
          refine ⟨_, rfl, _, sm4 _ _ hD, by rw [List.length_map]; exact small1000 (by omega), es ++ [dj], fun b u eb => ?_, ?_, ?_⟩
          · rw [upd_ne (ne_of_none eb nD)]
            exact sm4 _ _ (sm3 _ _ eb)
          · rw [upd_same, List.map_append]
            rfl
          · rw [etk, List.filter_append, List.filter_cons, if_pos (by rw [ev])]
            have keepF : ∀ (d : Addr) (g : List Lit), FactsAt H3 d g → FactsAt (upd H4 D (.lst (es.map V.ref ++ [.ref dj]))) d g := fun d g hg => by
              show upd _ D _ d = _
              rw [upd_ne (ne_of hg hD (by intro z; cases z))]
              exact sm4 _ _ hg
            exact Paired.app (Paired.mapP hes keepF) (.cons (keepF _ _ (FactsAt.keep sm3 hdj)) .nil)
        | false =>
          refine ⟨es, sm3.trans sm4, sm4 _ _ hD, ?_⟩
          rw [etk, List.filter_append, List.filter_cons, if_neg (by rw [ev]; exact Bool.false_ne_true), List.filter_nil, List.append_nil]
          exact Paired.mapP hes fun _ _ h => h.keep sm4
    · obtain ⟨es, sm3, hD, hes⟩ := hP
      rw [List.take_of_length_le (by rw [List.length_map, Paired.len hds]; exact Nat.le_refl _)] at hes
      exact q D ys es H3 (s02.trans sm3) (s02.free nD) hyn hym hD hes
end
end K27
end
section
set_option maxHeartbeats 4000000
/-! clauses: stands_in, is_clause_part, the law's own looks -/
namespace K27
open PySem PySem.Spec PyProof.Rows L2
theorem hu65_of {A : Around} {k : Nat} (hr : Room k A) : A.units + 65 < cLine := by
  have := hr.un
  omega
theorem item_of {ls : List Addr} {i : Nat} {x : V} (h : (ls.map V.ref)[i]? = some x) : ∃ a, ls[i]? = some a ∧ x = .ref a := by
  rw [List.getElem?_map] at h
  cases e : ls[i]? with
  | none =>
    rw [e] at h
    cases h
  | some a =>
    rw [e] at h
    exact ⟨a, rfl, (Option.some.inj h).symm⟩
theorem any_take {α : Type} {c : List α} {i : Nat} {l : α} {p : α → Bool} (h : c[i]? = some l) : (c.take (i + 1)).any p = ((c.take i).any p || p l) := by
  rw [List.take_add_one, h, List.any_append]
  simp
theorem all_take {α : Type} {c : List α} {i : Nat} {l : α} {p : α → Bool} (h : c[i]? = some l) : (c.take (i + 1)).all p = ((c.take i).all p && p l) := by
  rw [List.take_add_one, h, List.all_append]
  simp
def spStands : Sp := fun vs H Q _ => ∃ (p a : Addr) (ds : List Addr) (rows : List (List Lit)) (c : Cl), vs = [.ref p, .ref a] ∧ H p = some (.lst (ds.map V.ref)) ∧ Paired (FactsAt H) ds rows ∧ ClAt H a c ∧ c.length ≤ 100 ∧ ∀ H', Same H H' → Q (.bl (KM.folBy rows c)) H'
def spPart : Sp := fun vs H Q _ => ∃ (a b : Addr) (c d : Cl), vs = [.ref a, .ref b] ∧ ClAt H a c ∧ ClAt H b d ∧ LitsOk c ∧ LitsOk d ∧ c.length ≤ 100 ∧ ∀ H', Same H H' → Q (.bl (KM.part c d)) H'
def spLStands : Sp := fun vs H Q _ => ∃ (a d : Addr) (c : Cl) (f : List Lit), vs = [.ref a, .ref d] ∧ ClAt H a c ∧ FactsAt H d f ∧ (∀ l ∈ c, ∃ b, f.lookup l.1 = some b) ∧ Q (.bl (KM.cHolds (KM.val f) c)) H
def spLInside : Sp := fun vs H Q _ => ∃ (a b : Addr) (c d : Cl), vs = [.ref a, .ref b] ∧ ClAt H a c ∧ ClAt H b d ∧ LitsOk c ∧ LitsOk d ∧ Q (.bl (KM.part c d)) H
def spLIs : Sp := fun vs H Q _ => ∃ (a : Addr) (c : Cl), vs = [.ref a] ∧ ClAt H a c ∧ c.length ≤ 100 ∧ ((c.map (·.1)).Pairwise fun m n => m.cps.toList < n.cps.toList) ∧ ∀ H', Same H H' → Q (.bl true) H'
section
variable {P : Program} {w : World} {K : PySem.W.Frag} {mg : Str → Option Value} {base : Heap} {f : Addr} {fd : FuncData}
theorem ok_stands (F : FnP K "stands_in" sStandsIn f fd) (B : Blt mg) : FnOk P w K mg base CX0 1 f fd ["rows", "clause"] spStands := by
  have nd := cStandsIn.nd
  refine F.okn cStandsIn (fun vs H Q E h => ?_) (fun cdv A outer s H vs Q E hr h => ?_)
  · obtain ⟨p, a, ds, rows, c, rfl, _⟩ := h
    rfl
  · obtain ⟨p, a, ds, rows, c, rfl, hp, hds, hc, hl, q⟩ := h
    have hu := hu_of hr
    refine ⟨_, pss_cons (ps_for PassesOwn.never rfl (pi_list (pv 0)) (pg_name (i := 2) nd rfl (Or.inr rfl))
        (pss_one (ps_if (pt_not (pt_val (pe_callB (cr_any rfl) (by rfl) B.any (by decide +kernel) (pa_cons (pe_lc (own := [("name", 3), ("truth", 4)]) (g := gTup K 2 (gCons (gName 3) (gCons (gName 4) gNil))) (by rfl) nd (pi_tup (pv 1)) (blkOk_by (own := [("name", 3), ("truth", 4)]) (N := nStandsIn) (sc := defScope sStandsIn) (by decide +kernel))
            (fun _ _ _ _ _ => pg_tup rfl (pgs_cons (pg_name (i := 3) nd rfl (.inl rfl)) (pgs_cons (pg_name (i := 4) nd rfl (.inl rfl)) pgs_nil))) (fun _ _ _ _ _ => pts_nil)
            (fun _ _ _ _ _ => pe_and (pe_cmp (pc_din hu (pv 3) (pv 2)) rfl) (pe_one (pe_cmpR op_eq (pe_dget hu (pv 2) (pv 3) (fun _ _ => rfl)) (pv 4) (nomark _))))) pa_nil))))
          (pss_one (ps_ret pe_bl)) pss_nil)))
      (pss_one (ps_ret pe_bl)), ?_⟩
    obtain ⟨ls, hls, hlit⟩ := id hc
    refine ⟨_, rfl, p, rfl, ⟨_, SqL.of hp⟩, for_list (K := K) (a := p) (xs := ds.map V.ref) (fun i σ H1 => ∃ x2 : Option V, σ = [some (.ref p), some (.ref a), x2, none, none] ∧ Same H H1 ∧ ((rows.take i).all fun f => c.any fun l => f.lookup l.1 == some l.2) = true) ⟨_, rfl, Same.refl _, by simp⟩ (fun i σ H1 _ hP => ?_) (fun i x σ H1 hx hP => ?_) fun σ H1 hP => ?_⟩
    · obtain ⟨x2, rfl, sm, _⟩ := hP
      exact SqL.of (sm _ _ hp)
    · obtain ⟨x2, rfl, sm, hall⟩ := hP
      obtain ⟨di, hdi, rfl⟩ := item_of hx
      obtain ⟨fi, hfi, hF⟩ := Paired.atL hds hdi
      have hF1 := FactsAt.keep sm hF
      refine ⟨_, rfl, a, rfl, ⟨_, SqT.of (sm _ _ hls)⟩, fun D nD => lc_tup (K := K) (a := a) (xs := ls.map V.ref) (fun j H2 => Same H1 H2 ∧ H2 D = some (.lst (((c.take j).map fun l => fi.lookup l.1 == some l.2).map V.bl))) ?_ (fun j H2 _ hP => ?_) (fun j y H2 hy hP => ?_) fun H2 hP => ?_⟩
      · exact ⟨same_new nD _, upd_same⟩
      · exact SqT.of (hP.1 _ _ (sm _ _ hls))
      · obtain ⟨sm2, hD⟩ := hP
        obtain ⟨la, hla, rfl⟩ := item_of hy
        obtain ⟨l, hlj, hlt⟩ := Paired.atL hlit hla
        have hL2 : H2 la = some (.tup [.str l.1, .bl l.2]) := sm2 _ _ (sm _ _ hlt)
        have hj : j < c.length := (List.getElem?_eq_some_iff.mp hlj).1
        have hg := facts_get (FactsAt.keep sm2 hF1) l.1
        have fin : ∀ b : Bool, b = (fi.lookup l.1 == some l.2) → ∃ acc, H2 D = some (.lst acc) ∧ acc.length < sizeLine ∧ Same H1 (upd H2 D (.lst (acc ++ [V.bl b]))) ∧ upd H2 D (.lst (acc ++ [V.bl b])) D = some (.lst (((c.take (j + 1)).map fun l => fi.lookup l.1 == some l.2).map V.bl)) := fun b hb => by
          refine ⟨_, hD, by rw [List.length_map, List.length_map, List.length_take]; exact small1000 (by omega), fun b' u eb => ?_, ?_⟩
          · rw [upd_ne (ne_of_none eb nD)]
            exact sm2 _ _ eb
          · rw [upd_same, List.take_add_one, hlj, List.map_append, List.map_append, hb]
            rfl
        refine ⟨la, _, rfl, SqT.of hL2, rfl, _, _, rfl, _, _, rfl, rfl, rfl, _, rfl, _, rfl, di, _, rfl, hg, ?_⟩
        cases e : fi.lookup l.1 with
        | none => exact ⟨false, rfl, fin false (by rw [e]; rfl)⟩
        | some b =>
          rw [e] at hg
          refine ⟨true, rfl, _, rfl, _, rfl, di, _, rfl, hg, _, rfl, rfl, fin _ ?_⟩
          rw [e]
          cases b <;> cases l.2 <;> rfl
      · obtain ⟨sm2, hD⟩ := hP
        rw [List.take_of_length_le (by rw [List.length_map, Paired.len hlit]; exact Nat.le_refl _)] at hD
        refine ⟨D, _, rfl, SqL.of hD, _, rfl, ?_⟩
        rw [List.any_map]
        cases e : c.any (fun l => fi.lookup l.1 == some l.2) with
        | true =>
          have e2 : c.any (id ∘ fun l => fi.lookup l.1 == some l.2) = true := e
          rw [e2]
          refine ⟨_, rfl, sm.trans sm2, ?_⟩
          rw [all_take hfi, hall, e]
          rfl
        | false =>
          have e2 : c.any (id ∘ fun l => fi.lookup l.1 == some l.2) = false := e
          rw [e2]
          have ef : KM.folBy rows c = false := by
            unfold KM.folBy
            cases q2 : rows.all (fun f => c.any fun l => f.lookup l.1 == some l.2) with
            | false => rfl
            | true =>
              have := List.all_eq_true.mp q2 fi (List.mem_of_getElem? hfi)
              rw [e] at this
              cases this
          rw [ef] at q
          exact q H2 (sm.trans sm2)
    · obtain ⟨x2, rfl, sm, hall⟩ := hP
      rw [List.take_of_length_le (by rw [List.length_map, Paired.len hds]; exact Nat.le_refl _)] at hall
      have e : KM.folBy rows c = true := hall
      rw [e] at q
      exact q H1 sm
theorem ok_part (F : FnP K "is_clause_part" sIsClausePart f fd) (B : Blt mg) : FnOk P w K mg base CX0 1 f fd ["one", "other"] spPart := by
  have nd := cIsClausePart.nd
  refine F.okn cIsClausePart (fun vs H Q E h => ?_) (fun cdv A outer s H vs Q E hr h => ?_)
  · obtain ⟨a, b, c, d, rfl, _⟩ := h
    rfl
  · obtain ⟨a, b, c, d, rfl, hc, hd, oc, od, hl, q⟩ := h
    have hu := hu65_of hr
    refine ⟨_, pss_one (ps_ret (pe_callB (cr_all rfl) (by rfl) B.all (by decide +kernel) (pa_cons (pe_lc (own := [("literal", 2)]) (g := gName 2) (by rfl) nd (pi_tup (pv 0)) (blkOk_by (own := [("literal", 2)]) (N := nIsClausePart) (sc := defScope sIsClausePart) (by decide +kernel))
            (fun _ _ _ _ _ => pg_name (i := 2) nd rfl (.inl rfl)) (fun _ _ _ _ _ => pts_nil) (fun _ _ _ _ _ => pe_cmpR (r := rInT K false) (op_inT hu) (pv 2) (pv 1) rfl)) pa_nil))), ?_⟩
    obtain ⟨ls, hls, hlit⟩ := id hc
    refine ⟨_, rfl, a, rfl, ⟨_, SqT.of hls⟩, fun D nD => lc_tup (K := K) (a := a) (xs := ls.map V.ref) (fun j H2 => Same H H2 ∧ H2 D = some (.lst (((c.take j).map fun l => decide (l ∈ d)).map V.bl))) ?_ (fun j H2 _ hP => ?_) (fun j y H2 hy hP => ?_) fun H2 hP => ?_⟩
    · exact ⟨same_new nD _, upd_same⟩
    · exact SqT.of (hP.1 _ _ hls)
    · obtain ⟨sm2, hD⟩ := hP
      obtain ⟨la, hla, rfl⟩ := item_of hy
      obtain ⟨l, hlj, hlt⟩ := Paired.atL hlit hla
      have hj : j < c.length := (List.getElem?_eq_some_iff.mp hlj).1
      refine ⟨rfl, _, rfl, _, rfl, la, l, b, d, rfl, rfl, hlt.stay (Same.tups sm2), hd.stay (Same.tups sm2), oc l (List.mem_of_getElem? hlj), od, _, hD, by rw [List.length_map, List.length_map, List.length_take]; exact small1000 (by omega), fun b' u eb => ?_, ?_⟩
      · rw [upd_ne (ne_of_none eb nD)]
        exact sm2 _ _ eb
      · rw [upd_same, List.take_add_one, hlj, List.map_append, List.map_append]
        rfl
    · obtain ⟨sm2, hD⟩ := hP
      rw [List.take_of_length_le (by rw [List.length_map, Paired.len hlit]; exact Nat.le_refl _)] at hD
      refine ⟨D, _, rfl, SqL.of hD, ?_⟩
      rw [List.all_map]
      exact q H2 sm2
theorem ok_lstands (F : FnP K "_law_stands" sLawStands f fd) : FnOk P w K mg base CX0 1 f fd ["_law_clause", "_law_facts"] spLStands := by
  have nd := cLawStands.nd
  refine F.okn cLawStands (fun vs H Q E h => ?_) (fun cdv A outer s H vs Q E hr h => ?_)
  · obtain ⟨a, d, c, fc, rfl, _⟩ := h
    rfl
  · obtain ⟨a, d, c, fc, rfl, hc, hF, hall, q⟩ := h
    have hu := hu_of hr
    refine ⟨_, pss_cons (ps_for PassesOwn.never rfl (pi_tup (pv 0)) (pg_tup rfl (pgs_cons (pg_name (i := 2) nd rfl (.inl rfl)) (pgs_cons (pg_name (i := 3) nd rfl (.inl rfl)) pgs_nil)))
        (pss_one (ps_if (pt_cmpR op_eq (pe_dget hu (pv 1) (pv 2) (fun _ _ => rfl)) (pv 3) (nomark _)) (pss_one (ps_ret pe_bl)) pss_nil)))
      (pss_one (ps_ret pe_bl)), ?_⟩
    obtain ⟨ls, hls, hlit⟩ := id hc
    refine ⟨_, rfl, a, rfl, ⟨_, SqT.of hls⟩, for_tup (K := K) (a := a) (xs := ls.map V.ref) (fun i σ H1 => ∃ x2 x3 : Option V, σ = [some (.ref a), some (.ref d), x2, x3] ∧ H = H1 ∧ ((c.take i).any fun l => KM.val fc l.1 == l.2) = false) ⟨_, _, rfl, rfl, by simp⟩ (fun i σ H1 _ hP => ?_) (fun i x σ H1 hx hP => ?_) fun σ H1 hP => ?_⟩
    · obtain ⟨x2, x3, rfl, rfl, _⟩ := hP
      exact SqT.of hls
    · obtain ⟨x2, x3, rfl, rfl, hno⟩ := hP
      obtain ⟨la, hla, rfl⟩ := item_of hx
      obtain ⟨l, hlj, hlt⟩ := Paired.atL hlit hla
      have hlt : H la = some (.tup [.str l.1, .bl l.2]) := hlt
      obtain ⟨b, hb⟩ := hall l (List.mem_of_getElem? hlj)
      have hg := facts_get hF l.1
      rw [hb] at hg
      have hv : KM.val fc l.1 = b := by
        unfold KM.val
        rw [hb]
        rfl
      refine ⟨la, _, rfl, SqT.of hlt, rfl, _, _, rfl, _, _, rfl, rfl, ?_⟩
      refine ⟨_, rfl, _, rfl, d, _, rfl, hg, _, rfl, rfl, _, rfl, ?_⟩
      refine ite2 (fun e => ?_) (fun e => ?_)
      · have e2 : b = l.2 := V.bl.inj (of_decide_eq_true e)
        have ht : KM.cHolds (KM.val fc) c = true := List.any_eq_true.mpr ⟨l, List.mem_of_getElem? hlj, by rw [hv, e2]; exact beq_self_eq_true _⟩
        rw [ht] at q
        exact q
      · refine ⟨_, _, rfl, rfl, ?_⟩
        rw [any_take hlj, hno, hv, Bool.false_or]
        exact beq_eq_false_iff_ne.mpr fun z => e (decide_eq_true (by rw [z]))
    · obtain ⟨x2, x3, rfl, rfl, hno⟩ := hP
      rw [List.take_of_length_le (by rw [List.length_map, Paired.len hlit]; exact Nat.le_refl _)] at hno
      have ht : KM.cHolds (KM.val fc) c = false := hno
      rw [ht] at q
      exact q
theorem ok_linside (F : FnP K "_law_inside" sLawInside f fd) : FnOk P w K mg base CX0 1 f fd ["_law_one", "_law_other"] spLInside := by
  have nd := cLawInside.nd
  refine F.okn cLawInside (fun vs H Q E h => ?_) (fun cdv A outer s H vs Q E hr h => ?_)
  · obtain ⟨a, b, c, d, rfl, _⟩ := h
    rfl
  · obtain ⟨a, b, c, d, rfl, hc, hd, oc, od, q⟩ := h
    have hu := hu65_of hr
    refine ⟨_, pss_cons (ps_for PassesOwn.never rfl (pi_tup (pv 0)) (pg_name (i := 2) nd rfl (.inl rfl))
        (pss_one (ps_if (pt_cmpR (op_notInT hu) (pv 2) (pv 1) rfl) (pss_one (ps_ret pe_bl)) pss_nil)))
      (pss_one (ps_ret pe_bl)), ?_⟩
    obtain ⟨ls, hls, hlit⟩ := id hc
    refine ⟨_, rfl, a, rfl, ⟨_, SqT.of hls⟩, for_tup (K := K) (a := a) (xs := ls.map V.ref) (fun i σ H1 => ∃ x2 : Option V, σ = [some (.ref a), some (.ref b), x2] ∧ H = H1 ∧ ((c.take i).all fun l => decide (l ∈ d)) = true) ⟨_, rfl, rfl, by simp⟩ (fun i σ H1 _ hP => ?_) (fun i x σ H1 hx hP => ?_) fun σ H1 hP => ?_⟩
    · obtain ⟨x2, rfl, rfl, _⟩ := hP
      exact SqT.of hls
    · obtain ⟨x2, rfl, rfl, hyes⟩ := hP
      obtain ⟨la, hla, rfl⟩ := item_of hx
      obtain ⟨l, hlj, hlt⟩ := Paired.atL hlit hla
      refine ⟨_, rfl, _, rfl, la, l, b, d, rfl, rfl, hlt, hd, oc l (List.mem_of_getElem? hlj), od, _, rfl, ?_⟩
      refine ite2 (fun e => ?_) (fun e => ?_)
      · have e2 : (!decide (l ∈ d)) = true := e
        have nd' : l ∉ d := by simpa using e2
        have ht : KM.part c d = false := by
          cases q2 : KM.part c d with
          | false => rfl
          | true => exact absurd (KM.part_iff.mp q2 l (List.mem_of_getElem? hlj)) nd'
        rw [ht] at q
        exact q
      · have e2 : ¬ (!decide (l ∈ d)) = true := e
        have yd : l ∈ d := by simpa using e2
        refine ⟨_, rfl, rfl, ?_⟩
        rw [all_take hlj, hyes, decide_eq_true yd]
        rfl
    · obtain ⟨x2, rfl, rfl, hyes⟩ := hP
      rw [List.take_of_length_le (by rw [List.length_map, Paired.len hlit]; exact Nat.le_refl _)] at hyes
      have ht : KM.part c d = true := hyes
      rw [ht] at q
      exact q
theorem ok_lis (F : FnP K "_law_is_clause" sLawIsClause f fd) (B : Blt mg) : FnOk P w K mg base CX0 1 f fd ["_law_thing"] spLIs := by
  have nd := cLawIsClause.nd
  refine F.okn cLawIsClause (fun vs H Q E h => ?_) (fun cdv A outer s H vs Q E hr h => ?_)
  · obtain ⟨a, c, rfl, _⟩ := h
    rfl
  · obtain ⟨a, c, rfl, hc, hl, hpw, q⟩ := h
    refine ⟨_, pss_cons (ps_if (pt_not (pt_val (pe_callB call_isi (by rfl) B.isi (by decide +kernel) (pa_cons (pv 0) (pa_cons (pe_bltn (v := .ty "tuple") (u := .type "tuple") (by rfl) B.tup (by decide +kernel) rfl) pa_nil))))) (pss_one (ps_ret pe_bl)) pss_nil)
      (pss_cons (ps_for PassesOwn.never rfl (pi_tup (pv 0)) (pg_name (i := 1) nd rfl (.inl rfl))
        (pss_one (ps_if (PW.pt (pw_or (pt_not (pt_val (pe_callB call_isi (by rfl) B.isi (by decide +kernel) (pa_cons (pv 1) (pa_cons (pe_bltn (v := .ty "tuple") (u := .type "tuple") (by rfl) B.tup (by decide +kernel) rfl) pa_nil)))))
            (pw_or (pt_cmpR op_ne (pe_callB call_len_seq (by rfl) B.len PySem.boot_len (pa_cons (pv 1) pa_nil)) pe_int (nomark _))
            (pw_or (pt_not (pt_val (pe_callB call_isi (by rfl) B.isi (by decide +kernel) (pa_cons (pe_ix ix_tup (pv 1) pe_int (fun _ _ => rfl)) (pa_cons (pe_bltn (v := .ty "str") (u := .type "str") (by rfl) B.str (by decide +kernel) rfl) pa_nil)))))
            (pw_or1 (pt_not (pt_val (pe_callB call_isi (by rfl) B.isi (by decide +kernel) (pa_cons (pe_ix ix_tup (pv 1) pe_int (fun _ _ => rfl)) (pa_cons (pe_bltn (v := .ty "bool") (u := .type "bool") (by rfl) B.bl (by decide +kernel) rfl) pa_nil))))))))))
          (pss_one (ps_ret pe_bl)) pss_nil)))
      (pss_one (ps_ret (pe_callB (cr_all rfl) (by rfl) B.all (by decide +kernel) (pa_cons (pe_lc (own := [("_law_k", 2)]) (g := gName 2) (by rfl) nd (pi_range1 rfl B.range (pa_cons (pe_op op_sub (pe_callB call_len_seq (by rfl) B.len PySem.boot_len (pa_cons (pv 0) pa_nil)) pe_int) pa_nil)) (blkOk_by (own := [("_law_k", 2)]) (N := nLawIsClause) (sc := defScope sLawIsClause) (by decide +kernel))
            (fun _ _ _ _ _ => pg_name (i := 2) nd rfl (.inl rfl)) (fun _ _ _ _ _ => pts_nil)
            (fun _ _ _ _ _ => pe_cmpR op_lt_str (pe_ix (r := rIxT K) ix_tup (pe_ix (r := rIxT K) ix_tup (pv 0) (pv 2) (fun _ _ => rfl)) pe_int (fun _ _ => rfl)) (pe_ix (r := rIxT K) ix_tup (pe_ix (r := rIxT K) ix_tup (pv 0) (pe_op op_add (pv 2) pe_int) (fun _ _ => rfl)) pe_int (fun _ _ => rfl)) (nomark _))) pa_nil))))), ?_⟩
    obtain ⟨ls, hls, hlit⟩ := id hc
    have hll := Paired.len hlit
    refine ⟨_, rfl, _, _, _, _, true, rfl, ClsV.ty _, TyX.base (TyOf.tup hls), kit_ty (by decide +kernel), _, rfl, iteF ?_⟩
    refine ⟨_, rfl, a, rfl, ⟨_, SqT.of hls⟩, for_tup (K := K) (a := a) (xs := ls.map V.ref) (fun i σ H1 => ∃ x1 : Option V, σ = [some (.ref a), x1, none] ∧ H = H1) ⟨_, rfl, rfl⟩ (fun i σ H1 _ hP => ?_) (fun i x σ H1 hx hP => ?_) fun σ H1 hP => ?_⟩
    · obtain ⟨x1, rfl, rfl⟩ := hP
      exact SqT.of hls
    · obtain ⟨x1, rfl, rfl⟩ := hP
      obtain ⟨la, hla, rfl⟩ := item_of hx
      obtain ⟨l, hlj, hlt⟩ := Paired.atL hlit hla
      have hlt : H la = some (.tup [.str l.1, .bl l.2]) := hlt
      refine ⟨_, rfl, _, _, _, _, true, rfl, ClsV.ty _, TyX.base (TyOf.tup hlt), kit_ty (by decide +kernel), _, rfl, iteF ?_⟩
      refine ⟨_, rfl, la, _, rfl, .inr (SqT.of hlt), rfl, _, rfl, iteF ?_⟩
      refine ⟨_, rfl, la, _, 0, _, rfl, rfl, SqT.of hlt, atI_nat (j := 0) rfl, _, _, _, _, true, rfl, ClsV.ty _, TyX.base (TyOf.str _), kit_ty (by decide +kernel), _, rfl, iteF ?_⟩
      refine ⟨_, rfl, la, _, 1, _, rfl, rfl, SqT.of hlt, atI_nat (j := 1) rfl, _, _, _, _, true, rfl, ClsV.ty _, TyX.base (TyOf.bl _), kit_ty (by decide +kernel), _, rfl, iteF ?_⟩
      exact ⟨_, rfl, rfl⟩
    · obtain ⟨x1, rfl, rfl⟩ := hP
      refine ⟨_, rfl, a, _, rfl, .inr (SqT.of hls), _, _, rfl, rfl, _, rfl, by rw [List.length_map]; omega, by rw [List.length_map]; omega, fun D nD => lc_range (lo := 0) (n := (((ls.map V.ref).length : Int) - 1).toNat) (fun j H2 => Same H H2 ∧ H2 D = some (.lst ((List.replicate j true).map V.bl))) ?_ (fun j H2 hj hP => ?_) fun H2 hP => ?_⟩
      · exact ⟨same_new nD _, upd_same⟩
      · obtain ⟨sm2, hD⟩ := hP
        rw [List.length_map] at hj
        have hj1 : j + 1 < c.length := by omega
        have hj0 : j < c.length := by omega
        obtain ⟨la, hla, hlt⟩ := Paired.at_ hlit (List.getElem?_eq_getElem hj0)
        obtain ⟨lb, hlb, hlt2⟩ := Paired.at_ hlit (List.getElem?_eq_getElem hj1)
        have hlt' : H2 la = some (.tup [.str c[j].1, .bl c[j].2]) := sm2 _ _ hlt
        have hlt2' : H2 lb = some (.tup [.str c[j + 1].1, .bl c[j + 1].2]) := sm2 _ _ hlt2
        have hord : c[j].1.cps.toList < c[j + 1].1.cps.toList := by
          have h1 := List.pairwise_iff_getElem.mp hpw j (j + 1) (by rw [List.length_map]; exact hj0) (by rw [List.length_map]; exact hj1) (Nat.lt_succ_self j)
          rw [List.getElem_map, List.getElem_map] at h1
          exact h1
        refine ⟨rfl, _, rfl, _, rfl, a, _, _, .ref la, rfl, rfl, SqT.of (sm2 _ _ hls), atI_of (n := j) (by omega) (by rw [List.getElem?_map, hla]; rfl), la, _, 0, _, rfl, rfl, SqT.of hlt', atI_nat (j := 0) rfl, _, rfl, _, rfl, _, _, rfl, rfl, a, _, _, .ref lb, rfl, rfl, SqT.of (sm2 _ _ hls), atI_of (n := j + 1) (by omega) (by rw [List.getElem?_map, hlb]; rfl), lb, _, 0, _, rfl, rfl, SqT.of hlt2', atI_nat (j := 0) rfl, _, _, rfl, rfl, _, hD, by rw [List.length_map, List.length_replicate]; exact small1000 (by omega), fun b' u eb => ?_, ?_⟩
        · rw [upd_ne (ne_of_none eb nD)]
          exact sm2 _ _ eb
        · rw [upd_same, decide_eq_true hord, List.replicate_succ', List.map_append]
          rfl
      · obtain ⟨sm2, hD⟩ := hP
        refine ⟨D, _, rfl, SqL.of hD, ?_⟩
        have e : (List.replicate (((ls.map V.ref).length : Int) - 1).toNat true).all id = true := by simp
        rw [e]
        exact q H2 sm2
end
end K27
end
section
set_option maxHeartbeats 4000000
/-! clauses_in_order -/
namespace K27
open PySem PySem.Spec PyProof.Rows L2
def qLam : Str := (("clauses_in_order" : Str) ++ ".<locals>.") ++ "<lambda>"
def tabT (P : Addr) : List (Addr × Str) := [(P, qLam)]
/-- all but the list at o stays -/
def ButL (o : Addr) (H H' : Hp) : Prop := ∀ b u, b ≠ o → H b = some u → H' b = some u
theorem tabs_but {T : List (Addr × Str)} {H H' : Hp} {o : Addr} {xs : List V} (e : ButL o H H') (ho : H o = some (.lst xs)) (h : LamX.Tabs T H) : LamX.Tabs T H' := fun p hp => by
  obtain ⟨ps, h1, h2, h3⟩ := h p hp
  refine ⟨ps, e _ _ (ne_of h1 ho (by intro z; cases z)) h1, h2, fun pos cv hc => ?_⟩
  obtain ⟨c, e1, e2⟩ := h3 pos cv hc
  exact ⟨c, e1, e _ _ (ne_of e2 ho (by intro z; unfold LamX.CodeO at z; cases z)) e2⟩
theorem tups_but {H H' : Hp} {o : Addr} {xs : List V} (e : ButL o H H') (ho : H o = some (.lst xs)) : TupsStay H H' := fun b ys h => e b _ (ne_of h ho (by intro z; cases z)) h
theorem cls_dp {K : PySem.W.Frag} {H : Hp} : ∀ {as : List Addr} {cs : List Cl}, Paired (ClAt H) as cs → DpAll K H (as.map V.ref) (cs.map clD)
  | _, _, .nil => .nil
  | _, _, .cons r t => .cons (cl_dp r) (cls_dp t)
theorem cls_lay : ∀ {cs : List Cl}, (∀ c ∈ cs, LitsOk c) → PyData.canLayAll0 (cs.map clD) = true
  | [], _ => by simp [PyData.canLayAll0]
  | c :: cs, h => by
    have h1 : (clD c).canLay0 = true := by
      simp only [clD, PyData.canLay0]
      exact lits_lay (h c (by simp))
    have h2 := cls_lay (cs := cs) fun x hx => h x (by simp [hx])
    simp [PyData.canLayAll0, h1, h2]
theorem cls_depth : ∀ cs : List Cl, PyData.depthAll (cs.map clD) ≤ 2
  | [] => by simp [PyData.depthAll]
  | c :: cs => by
    have h1 := cl_depth c
    have h2 := cls_depth cs
    simp only [List.map_cons, PyData.depthAll]
    omega
theorem cls_shaped {cs : List Cl} (h : ∀ c ∈ cs, LitsOk c) : SeqAt.shaped (.list (cs.map clD)) = true := by
  have h1 := cls_depth cs
  have h2 : PyData.depth (.list (cs.map clD)) ≤ 64 := by
    simp only [PyData.depth]
    omega
  show (PyData.canLay0 (.list (cs.map clD)) && decide (PyData.depth (.list (cs.map clD)) ≤ 64)) = true
  rw [Bool.and_eq_true]
  exact ⟨by simp only [PyData.canLay0]; exact cls_lay h, decide_eq_true h2⟩
theorem nil_shaped : SeqAt.shaped (.list []) = true := cls_shaped (cs := []) (by simp)
theorem list_nil : ∀ cs : List Cl, PyData.eqv (.list (cs.map clD)) (.list []) = cs.isEmpty
  | [] => by simp [PyData.eqv, PyData.eqvAll]
  | c :: cs => by simp [PyData.eqv, PyData.eqvAll]
def spOrder (T : List (Addr × Str)) : Sp := fun vs H Q _ => ∃ (a : Addr) (as : List Addr) (cs : List Cl), vs = [.ref a] ∧ H a = some (.lst (as.map V.ref)) ∧ Paired (ClAt H) as cs ∧ (∀ c ∈ cs, LitsOk c) ∧ cs.length ≤ 300 ∧ LamX.Tabs T H ∧
  ∀ (p : Addr) (as' : List Addr) (cs' : List Cl) (H' : Hp), LamX.ExtN H H' → LamX.Tabs T H' → H p = none → H' p = some (.lst (as'.map V.ref)) → Paired (ClAt H') as' cs' → (∀ c, c ∈ cs' ↔ c ∈ cs) → (cs'.Pairwise fun x y => x.length ≤ y.length) → cs'.length ≤ cs.length → Q (.ref p) H'
section
variable {P : Program} {w : World} {K : PySem.W.Frag} {mg : Str → Option Value} {base : Heap} {f : Addr} {fd : FuncData}
/-- a def whose code object is known -/
theorem FnP.okc {x : Str} {st : Stmt} {N ps : List Str} {k : Nat} {sp : Sp} (F : FnP K x st f fd) (S : FnScope N ps (defScope st)) (len : ∀ vs H Q E, sp vs H Q E → vs.length = ps.length)
    (hbody : ∀ (cdv : Value) (A : Around) (outer : List Env) (s : Shared) (H : Hp) (vs : List V) (Q : VK) (E : XK), fd.code = cdv → Room k (A.deeper (envOfC x (defScope st) s.heap.objs.size f cdv)) → sp vs H Q E →
      ∃ t, PSs (cxOf CX0 P w K mg base N x (defScope st) f cdv A outer s H E).nox (defBody st) t ∧ t { nx := fun _ H' => Q .non H', rt := Q } (start N vs) H) : FnOk P w K mg base CX0 (k + 1) f fd ps sp := by
  obtain ⟨oc, od, dV, kV, doc, pm, an, cdv, ct, osl, rfl, lk, hcd, _, _⟩ := F.ex
  refine fn_of lk hcd S len fun A outer s H vs Q E hr hsp => ?_
  obtain ⟨t, h1, h2⟩ := hbody cdv A outer s H vs Q E rfl hr hsp
  exact ⟨t, h1.nox, h2⟩
theorem ok_order {c Pt : Addr} (F : FnP K "clauses_in_order" sClausesInOrder f fd) (B : Blt mg) (TB : LamX.TabB base mg c Pt) (hcode : fd.code = .ref c) : FnOk P w K mg base CX0 3 f fd ["clauses"] (spOrder (tabT Pt)) := by
  have nd := cClausesInOrder.nd
  refine FnP.okc F cClausesInOrder (fun vs H Q E h => ?_) (fun cdv A outer s H vs Q E hcdv hr h => ?_)
  · obtain ⟨a, as, cs, rfl, _⟩ := h
    rfl
  · obtain ⟨a, as, cs, rfl, ha, hcs, hok, hlen, hT, q⟩ := h
    have hu : _ + 64 < cLine := hr.units
    have hcd : cdv = .ref c := hcdv.symm.trans hcode
    refine ⟨_, pss_cons (ps_set (i := 1) nd rfl (.inl rfl) (pe_lst pa_nil))
      (pss_cons (ps_for PassesOwn.never rfl (pi_list (pe_sortL (T := tabT Pt) hr TB hcd (List.mem_singleton.mpr rfl) (fun p hp _ => by rw [List.mem_singleton.mp hp]; rfl) (by rfl) B.sorted B.len (pv 0) rfl rfl rfl rfl (by decide +kernel) (by decide +kernel) (by decide +kernel) (by decide +kernel) (fun _ _ _ _ _ _ => rfl))) (pg_name (i := 2) nd rfl (.inl rfl))
        (pss_one (ps_if (PW.pt (pw_or (pt_cmpR (op_eqD hu) (pv 1) (pe_lst pa_nil) (nomark _)) (pw_or1 (pt_cmpR (op_neD hu) (pe_ix ix_list (pv 1) (pe_un un_neg pe_int) (fun _ _ => rfl)) (pv 2) (nomark _)))))
          (pss_one (ps_expr (pe_bm PySem.F.plainAttrs_list PySem.F.slot_list_append PySem.F.type_list_append mt_append (pv 1) (pa_cons (pv 2) pa_nil)))) pss_nil)))
      (pss_one (ps_ret (pv 1)))), ?_⟩
    refine ⟨Nat.zero_le _, fun o no => ?_⟩
    have s1 := same_new no (.lst [])
    have hT1 : LamX.Tabs (tabT Pt) (upd H o (.lst [])) := hT.ext fun b u e => s1 b u e
    refine ⟨_, rfl, a, as, cs, rfl, SqL.of (s1 _ _ ha), Paired.mapP hcs fun _ _ h => h.stay (Same.tups s1), hT1, fun H2 p bs ds eN T2 np hds hperm hpw hbl => ?_⟩
    have s2 := same_new np (.lst (bs.map V.ref))
    have ho2 : H2 o = some (.lst []) := eN _ _ upd_same fun ps z => by cases z
    have hop : o ≠ p := ne_of_none ho2 np
    have hds3 : Paired (ClAt (upd H2 p (.lst (bs.map V.ref)))) bs ds := Paired.mapP hds fun _ _ h => h.stay (Same.tups s2)
    have T3 : LamX.Tabs (tabT Pt) (upd H2 p (.lst (bs.map V.ref))) := T2.ext fun b u e => s2 b u e
    have hp3 : upd H2 p (.lst (bs.map V.ref)) p = some (.lst (bs.map V.ref)) := upd_same
    have ho3 : upd H2 p (.lst (bs.map V.ref)) o = some (.lst []) := s2 _ _ ho2
    have eN3 : LamX.ExtN (upd H o (.lst [])) (upd H2 p (.lst (bs.map V.ref))) := fun b u e n => s2 _ _ (eN b u e n)
    generalize upd H2 p (.lst (bs.map V.ref)) = H3 at hds3 T3 hp3 ho3 eN3 ⊢
    have hokd : ∀ x ∈ ds, LitsOk x := fun x hx => hok x (hperm.mem_iff.mp hx)
    have hdl : ds.length ≤ 300 := by
      rw [hperm.length_eq]
      exact hlen
    refine ⟨p, rfl, ⟨_, SqL.of hp3⟩, for_list (K := K) (a := p) (xs := bs.map V.ref) (fun i σ H4 => ∃ (es : List Addr) (x2 : Option V), σ = [some (.ref a), some (.ref o), x2] ∧ ButL o H3 H4 ∧ H4 o = some (.lst (es.map V.ref)) ∧ Paired (ClAt H3) es ((ds.take i).foldl KM.ddStep [])) ?_ (fun i σ H4 _ hP => ?_) (fun i x σ H4 hx hP => ?_) fun σ H4 hP => ?_⟩
    · exact ⟨[], none, rfl, fun b u _ e => e, ho3, .nil⟩
    · obtain ⟨es, x2, rfl, bt, _⟩ := hP
      exact SqL.of (bt _ _ hop.symm hp3)
    · obtain ⟨es, x2, rfl, bt, ho4, hes⟩ := hP
      obtain ⟨ai, hai, rfl⟩ := item_of hx
      obtain ⟨ci, hci, hcl⟩ := Paired.atL hds3 hai
      have tp := tups_but bt ho3
      have hcl4 : ClAt H4 ai ci := hcl.stay tp
      have hokc : LitsOk ci := hokd ci (List.mem_of_getElem? hci)
      obtain ⟨acc, eacc⟩ : ∃ acc, (ds.take i).foldl KM.ddStep [] = acc := ⟨_, rfl⟩
      have hsub : acc.Sublist ds := by
        rw [← eacc]
        exact (KM.dd_sub (ds.take i)).trans (List.take_sublist _ _)
      have hoka : ∀ x ∈ acc, LitsOk x := fun x hx => hokd x (hsub.subset hx)
      have estep : (ds.take (i + 1)).foldl KM.ddStep [] = KM.ddStep acc ci := by
        rw [List.take_add_one, hci, List.foldl_append, eacc]
        rfl
      rw [eacc] at hes
      have hel : es.length ≤ 300 := by
        rw [Paired.len hes]
        exact Nat.le_trans hsub.length_le hdl
      have hes4 : Paired (ClAt H4) es acc := Paired.mapP hes fun _ _ h => h.stay tp
      -- append, from any heap that has all of this one
      have app : ∀ H5 : Hp, Same H4 H5 → KM.ddStep acc ci = acc ++ [ci] → ∃ (es' : List Addr) (x2 : Option V), [some (.ref a), some (.ref o), some (.ref ai)] = [some (.ref a), some (.ref o), x2] ∧ ButL o H3 (upd H5 o (.lst (es.map V.ref ++ [.ref ai]))) ∧ upd H5 o (.lst (es.map V.ref ++ [.ref ai])) o = some (.lst (es'.map V.ref)) ∧ Paired (ClAt H3) es' ((ds.take (i + 1)).foldl KM.ddStep []) := fun H5 s5 ed => by
        refine ⟨es ++ [ai], _, rfl, fun b u nb eb => ?_, ?_, ?_⟩
        · rw [upd_ne nb]
          exact s5 _ _ (bt b u nb eb)
        · rw [upd_same, List.map_append]
          rfl
        · rw [estep, ed]
          exact Paired.app hes (.cons hcl .nil)
      refine ⟨_, rfl, Nat.zero_le _, fun z nz => ?_⟩
      have s4 := same_new nz (.lst [])
      refine ⟨.list (acc.map clD), .list [], .lst (SqL.of (s4 _ _ ho4)) (cls_dp (Paired.mapP hes4 fun _ _ h => h.stay (Same.tups s4))), .lst (SqL.of upd_same) .nil, cls_shaped hoka, nil_shaped, _, rfl, ?_⟩
      refine ite2 (fun e => ?_) (fun e => ?_)
      · rw [list_nil] at e
        have e0 : acc = [] := List.isEmpty_iff.mp e
        refine ⟨_, rfl, .inl ⟨rfl, _, SqL.of (s4 _ _ ho4)⟩, _, rfl, o, _, _, rfl, rfl, s4 _ _ ho4, by rw [List.length_map]; exact small1000 (by omega), app _ s4 ?_⟩
        rw [e0]
        rfl
      · rw [list_nil] at e
        have ne0 : acc ≠ [] := fun z => e (by rw [z]; rfl)
        obtain ⟨acc0, cl, hacc⟩ : ∃ acc0 cl, acc = acc0 ++ [cl] := ⟨acc.dropLast, acc.getLast ne0, (List.dropLast_concat_getLast ne0).symm⟩
        have hlast : acc.getLast? = some cl := by
          rw [hacc]
          exact List.getLast?_concat
        obtain ⟨al, hal, hcll⟩ := Paired.at_ hes4 (i := acc0.length) (b := cl) (by rw [hacc]; exact List.getElem?_concat_length)
        have hle : es.length = acc0.length + 1 := by
          rw [Paired.len hes, hacc, List.length_append]
          rfl
        have hat : atI (es.map V.ref) (-1) = some (.ref al) := by
          have h1 : es.map V.ref = (es.take acc0.length).map V.ref ++ [.ref al] := by
            have h2 : es = es.take acc0.length ++ [al] := by
              have h3 : es.take (acc0.length + 1) = es := List.take_of_length_le (by omega)
              rw [List.take_add_one, hal] at h3
              exact h3.symm
            conv => lhs; rw [h2]
            rw [List.map_append]
            rfl
          rw [h1]
          exact atI_last _ _
        refine ⟨_, rfl, 1, rfl, o, _, _, .ref al, rfl, rfl, SqL.of (s4 _ _ ho4), hat, _, rfl, clD cl, clD ci, cl_dp (hcll.stay (Same.tups s4)), cl_dp (hcl4.stay (Same.tups s4)), cl_shaped (hoka cl (List.mem_of_getLast? hlast)), cl_shaped hokc, _, rfl, ?_⟩
        rw [cl_eqv]
        refine ite2 (fun e2 => ?_) (fun e2 => ?_)
        · have ne2 : cl ≠ ci := by simpa using e2
          refine ⟨_, rfl, .inl ⟨rfl, _, SqL.of (s4 _ _ ho4)⟩, _, rfl, o, _, _, rfl, rfl, s4 _ _ ho4, by rw [List.length_map]; exact small1000 (by omega), app _ s4 ?_⟩
          unfold KM.ddStep
          rw [hlast, if_neg fun z => ne2 (Option.some.inj z)]
        · have eq2 : cl = ci := by simpa using e2
          refine ⟨es, _, rfl, fun b u nb eb => s4 _ _ (bt b u nb eb), s4 _ _ ho4, ?_⟩
          rw [estep]
          unfold KM.ddStep
          rw [hlast, if_pos (by rw [eq2])]
          exact hes
    · obtain ⟨es, x2, rfl, bt, ho4, hes⟩ := hP
      rw [List.take_of_length_le (by rw [List.length_map, Paired.len hds3]; exact Nat.le_refl _)] at hes
      have hdd : (KM.dd ds).Sublist ds := KM.dd_sub ds
      refine ⟨_, rfl, q o es (KM.dd ds) H4 (fun b u e n => ?_) (tabs_but bt ho3 T3) no ho4 (Paired.mapP hes fun _ _ h => h.stay (tups_but bt ho3)) (fun x => ?_) (List.Pairwise.sublist hdd hpw) ?_⟩
      · exact bt b u (ne_of_none e no) (eN3 b u (s1 _ _ e) n)
      · rw [KM.dd_mem]
        exact hperm.mem_iff
      · rw [← hperm.length_eq]
        exact hdd.length_le
end
end K27
end
section
set_option maxHeartbeats 4000000
/-! clauses_over -/
namespace K27
open PySem PySem.Spec PyProof.Rows L2
theorem clOver_take {ys : List Str} {i : Nat} {n : Str} (h : ys[i]? = some n) : KM.clOver (ys.take (i + 1)) = KM.more (KM.clOver (ys.take i)) n := by
  unfold KM.clOver KM.clFrom
  rw [List.take_add_one, h, List.foldl_append]
  rfl
theorem pow35 {n : Nat} (h : n ≤ 5) : 3 ^ n ≤ 243 := Nat.le_trans (Nat.pow_le_pow_right (by decide) h) (by decide)
def spOver (T : List (Addr × Str)) : Sp := fun vs H Q _ => ∃ (a : Addr) (names : List Str), vs = [.ref a] ∧ H a = some (.lst (names.map V.str)) ∧ names.Nodup ∧ names.length ≤ 5 ∧ (∀ n ∈ names, PyData.strOk n = true) ∧ LamX.Tabs T H ∧
  ∀ (p : Addr) (zs : List Str) (as : List Addr) (cs : List Cl) (H' : Hp), LamX.ExtN H H' → LamX.Tabs T H' → H p = none → zs.Perm names → sortedS zs = true → H' p = some (.lst (as.map V.ref)) → Paired (ClAt H') as cs → (∀ c, c ∈ cs ↔ c ∈ KM.clOver zs) → (cs.Pairwise fun x y => x.length ≤ y.length) → cs.length ≤ 243 → Q (.ref p) H'
section
variable {P : Program} {w : World} {K : PySem.W.Frag} {mg : Str → Option Value} {base : Heap} {f : Addr} {fd : FuncData}
theorem ok_over {T : List (Addr × Str)} (F : FnP K "clauses_over" sClausesOver f fd) (B : Blt mg) (OR : Cal P w K mg base 3 "clauses_in_order" ["clauses"] (spOrder T)) : FnOk P w K mg base CX0 4 f fd ["names"] (spOver T) := by
  have nd := cClausesOver.nd
  refine F.okn cClausesOver (fun vs H Q E h => ?_) (fun cdv A outer s H vs Q E hr h => ?_)
  · obtain ⟨a, names, rfl, _⟩ := h
    rfl
  · obtain ⟨a, names, rfl, ha, hnd, hn5, hok, hT, q⟩ := h
    refine ⟨_, pss_cons (ps_set (i := 1) nd rfl (.inl rfl) (pe_lst (pa_cons (pe_tup pa_nil) pa_nil)))
      (pss_cons (ps_for PassesOwn.never rfl (pi_list (pe_callB cr_sortedS (by rfl) B.sorted (by decide +kernel) (pa_cons (pv 0) pa_nil))) (pg_name (i := 2) nd rfl (Or.inr rfl))
        (pss_cons (ps_set (i := 3) nd rfl (.inl rfl) (pe_callTy call_list_of (by rfl) B.lst (by decide +kernel) (pa_cons (pv 1) pa_nil)))
        (pss_cons (ps_for PassesOwn.never rfl (pi_tup (pe_tup (pa_cons pe_bl (pa_cons pe_bl pa_nil)))) (pg_name (i := 4) nd rfl (Or.inr rfl))
          (pss_one (ps_set (i := 3) nd rfl (.inl rfl) (pe_op op_cat (pv 3) (pe_lc (own := [("row", 5)]) (g := gName 5) (by rfl) nd (pi_list (pv 1)) (blkOk_by (own := [("row", 5)]) (N := nClausesOver) (sc := defScope sClausesOver) (by decide +kernel))
            (fun _ _ _ _ _ => pg_name (i := 5) nd rfl (.inl rfl)) (fun _ _ _ _ _ => pts_nil)
            (fun _ _ _ _ _ => pe_op (r := rCatA K) op_catA (pv 5) (pe_tup (pa_cons (pe_tup (pa_cons (pv 2) (pa_cons (pv 4) pa_nil))) pa_nil))))))))
        (pss_one (ps_set (i := 1) nd rfl (.inl rfl) (pv 3))))))
      (pss_one (ps_ret (pe_cal OR hr (by rfl) (pa_cons (pv 1) pa_nil))))), ?_⟩
    refine ⟨Nat.zero_le _, fun t0 n0 => ⟨(by show 1 ≤ sizeLine; decide), fun o no => ?_⟩⟩
    have s0 := same_new n0 (.tup [])
    have s1 := s0.trans (same_new no (.lst [.ref t0]))
    have ht0 : upd (upd H t0 (.tup [])) o (.lst [.ref t0]) t0 = some (.tup []) := (same_new no (.lst [.ref t0])) _ _ upd_same
    refine ⟨_, rfl, a, names, rfl, SqL.of (s1 _ _ ha), by omega, fun zs sl hz hs nsl => ?_⟩
    have s2 := same_new nsl (.lst (zs.map V.str))
    have s02 := s1.trans s2
    have hzn : zs.Nodup := hz.nodup_iff.mpr hnd
    have hzl : zs.length ≤ 5 := by
      rw [hz.length_eq]
      exact hn5
    refine ⟨sl, rfl, ⟨_, SqL.of upd_same⟩, for_list (K := K) (a := sl) (xs := zs.map V.str) (fun i σ H' => ∃ (o' : Addr) (as : List Addr) (x2 x3 x4 : Option V), σ = [some (.ref a), some (.ref o'), x2, x3, x4, none] ∧ Same H H' ∧ H' sl = some (.lst (zs.map V.str)) ∧ H' o' = some (.lst (as.map V.ref)) ∧ Paired (ClAt H') as (KM.clOver (zs.take i)) ∧ H o' = none) ?_ (fun i σ H' _ hP => ?_) (fun i x σ H' hx hP => ?_) fun σ H' hP => ?_⟩
    · exact ⟨o, [t0], none, none, none, rfl, s02, upd_same, s2 _ _ upd_same, .cons ⟨[], s2 _ _ ht0, .nil⟩ .nil, s0.free no⟩
    · obtain ⟨o', as, x2, x3, x4, rfl, _, hsl, _⟩ := hP
      exact SqL.of hsl
    · obtain ⟨o', as, x2, x3, x4, rfl, sm, hsl, ho, has, no'⟩ := hP
      rw [List.getElem?_map] at hx
      cases hty : zs[i]? with
      | none =>
        rw [hty] at hx
        cases hx
      | some nm =>
        rw [hty] at hx
        have ex : V.str nm = x := Option.some.inj hx
        subst ex
        have hilt : i < zs.length := (List.getElem?_eq_some_iff.mp hty).1
        have hrl : (KM.clOver (zs.take i)).length ≤ 81 := by
          rw [KM.clOver_len]
          refine Nat.le_trans (Nat.pow_le_pow_right (by decide) (show (zs.take i).length ≤ 4 by rw [List.length_take]; omega)) (by decide)
        have hasl := Paired.len has
        refine ⟨_, rfl, o', _, rfl, .inl (SqL.of ho), fun m nm' => ?_⟩
        have sM := same_new nm' (.lst (as.map V.ref))
        refine ⟨(by show 2 ≤ sizeLine; decide), fun Tt nT => ?_⟩
        have sT := same_new nT (.tup [.bl false, .bl true])
        have sMT := sM.trans sT
        have hm0 : upd (upd H' m (.lst (as.map V.ref))) Tt (.tup [.bl false, .bl true]) m = some (.lst (as.map V.ref)) := sT _ _ upd_same
        refine ⟨Tt, rfl, ⟨_, SqT.of upd_same⟩, for_tup (K := K) (a := Tt) (xs := [.bl false, .bl true]) (fun k σ H2 => ∃ (m' : Addr) (bs : List Addr) (y4 : Option V), σ = [some (.ref a), some (.ref o'), some (.str nm), some (.ref m'), y4, none] ∧ Same H' H2 ∧ H2 Tt = some (.tup [.bl false, .bl true]) ∧ H2 m' = some (.lst (bs.map V.ref)) ∧
          Paired (ClAt H2) bs (KM.clOver (zs.take i) ++ (([false, true].take k).flatMap fun b => (KM.clOver (zs.take i)).map (· ++ [(nm, b)]))) ∧ H' m' = none) ?_ (fun k σ H2 _ hP => ?_) (fun k z σ H2 hzk hP => ?_) fun σ H2 hP => ?_⟩
        · exact ⟨m, as, x4, rfl, sMT, upd_same, hm0, by simpa using Paired.mapP has fun _ _ h => h.stay (Same.tups sMT), nm'⟩
        · obtain ⟨m', bs, y4, rfl, _, hTt, _⟩ := hP
          exact SqT.of hTt
        · obtain ⟨m', bs, y4, rfl, sm2, hTt, hm, hbs, nm2⟩ := hP
          have hk2 : k < 2 := (List.getElem?_eq_some_iff.mp hzk).1
          obtain ⟨b, hb, hbk⟩ : ∃ b, z = V.bl b ∧ [false, true][k]? = some b := by
            have h01 : k = 0 ∨ k = 1 := by omega
            rcases h01 with rfl | rfl
            · exact ⟨false, (Option.some.inj hzk).symm, rfl⟩
            · exact ⟨true, (Option.some.inj hzk).symm, rfl⟩
          subst hb
          have hbl : bs.length ≤ 243 := by
            rw [Paired.len hbs, List.length_append]
            have h01 : k = 0 ∨ k = 1 := by omega
            rcases h01 with rfl | rfl
            · simp
              omega
            · simp
              omega
          have has2 : Paired (ClAt H2) as (KM.clOver (zs.take i)) := Paired.mapP has fun _ _ h => h.stay (Same.tups sm2)
          refine ⟨_, rfl, _, rfl, o', rfl, ⟨_, SqL.of (sm2 _ _ ho)⟩, fun D nD => lc_list (K := K) (a := o') (xs := as.map V.ref) (fun j H3 => ∃ es : List Addr, Same H2 H3 ∧ H3 D = some (.lst (es.map V.ref)) ∧ Paired (ClAt H3) es (((KM.clOver (zs.take i)).take j).map (· ++ [(nm, b)]))) ?_ (fun j H3 _ hP => ?_) (fun j y H3 hy hP => ?_) fun H3 hP => ?_⟩
          · exact ⟨[], same_new nD _, upd_same, .nil⟩
          · obtain ⟨es, sm3, _⟩ := hP
            exact SqL.of (sm3 _ _ (sm2 _ _ ho))
          · obtain ⟨es, sm3, hD, hes⟩ := hP
            obtain ⟨aj, haj, rfl⟩ := item_of hy
            obtain ⟨cj, hcj, hcl⟩ := Paired.atL has2 haj
            obtain ⟨ls, hls, hlit⟩ := hcl.stay (Same.tups sm3)
            have hjl : j < as.length := (List.getElem?_eq_some_iff.mp haj).1
            have hel : es.length ≤ 81 := by
              rw [Paired.len hes, List.length_map, List.length_take]
              omega
            have hlsl : ls.length ≤ 5 := by
              have h1 := KM.clOver_mem.mp (List.mem_of_getElem? hcj)
              have h2 := h1.length_le
              rw [List.length_map, List.length_take] at h2
              have h3 := Paired.len hlit
              omega
            -- the new clause stands at a place q2 of a heap that has all of this one
            have fin : ∀ (H4 : Hp) (q2 : Addr), Same H3 H4 → ClAt H4 q2 (cj ++ [(nm, b)]) → ∃ acc, H4 D = some (.lst acc) ∧ acc.length < sizeLine ∧ ∃ es2 : List Addr, Same H2 (upd H4 D (.lst (acc ++ [.ref q2]))) ∧ upd H4 D (.lst (acc ++ [.ref q2])) D = some (.lst (es2.map V.ref)) ∧ Paired (ClAt (upd H4 D (.lst (acc ++ [.ref q2])))) es2 (((KM.clOver (zs.take i)).take (j + 1)).map (· ++ [(nm, b)])) := fun H4 q2 s4 hq2 => by
              have hD4 := s4 _ _ hD
              have tp : TupsStay H4 (upd H4 D (.lst (es.map V.ref ++ [.ref q2]))) := fun t xs ht => by
                rw [upd_ne (ne_of ht hD4 (by intro z; cases z))]
                exact ht
              refine ⟨_, hD4, by rw [List.length_map]; exact small1000 (by omega), es ++ [q2], fun b' u eb => ?_, ?_, ?_⟩
              · rw [upd_ne (ne_of_none eb nD)]
                exact s4 _ _ (sm3 _ _ eb)
              · rw [upd_same, List.map_append]
                rfl
              · rw [List.take_add_one, hcj, List.map_append]
                exact Paired.app (Paired.mapP hes fun _ _ h => (h.stay (Same.tups s4)).stay tp) (.cons (hq2.stay tp) .nil)
            refine ⟨rfl, _, rfl, _, rfl, _, rfl, (by show 2 ≤ sizeLine; decide), fun l1 nl1 => ⟨(by show 1 ≤ sizeLine; decide), fun t1 nt1 => ?_⟩⟩
            have sl1 := same_new nl1 (.tup [.str nm, .bl b])
            have st1 := same_new nt1 (.tup [.ref l1])
            have s34 := sl1.trans st1
            have hlit1 : LitAt (upd (upd H3 l1 (.tup [.str nm, .bl b])) t1 (.tup [.ref l1])) l1 (nm, b) := st1 _ _ upd_same
            refine ⟨aj, t1, ls.map V.ref, [.ref l1], rfl, rfl, SqT.of (s34 _ _ hls), SqT.of upd_same, by rw [List.length_map, List.length_singleton]; exact small (by omega), fun e0 => ?_, fun e0 e1 => ?_, fun e0 e1 q2 nq2 => ?_⟩
            · have els : ls = [] := List.map_eq_nil_iff.mp e0
              subst els
              have ecj : cj = [] := by
                cases hlit
                rfl
              subst ecj
              exact fin _ t1 s34 ⟨[l1], upd_same, .cons hlit1 .nil⟩
            · cases e1
            · have sq := same_new nq2 (.tup (ls.map V.ref ++ [.ref l1]))
              refine fin _ q2 (s34.trans sq) ⟨ls ++ [l1], by rw [upd_same, List.map_append]; rfl, Paired.app (Paired.mapP hlit fun _ _ h => (h.stay (Same.tups s34)).stay (Same.tups sq)) (.cons (hlit1.stay (Same.tups sq)) .nil)⟩
          · obtain ⟨es, sm3, hD, hes⟩ := hP
            rw [List.take_of_length_le (by rw [List.length_map]; omega)] at hes
            have hel : es.length ≤ 81 := by
              rw [Paired.len hes, List.length_map]
              exact hrl
            refine ⟨m', D, _, _, rfl, rfl, sm3 _ _ hm, hD, by rw [List.length_map, List.length_map]; exact small (by omega), fun z nz => ?_⟩
            have sz := same_new nz (.lst (bs.map V.ref ++ es.map V.ref))
            refine ⟨z, bs ++ es, _, rfl, (sm2.trans sm3).trans sz, sz _ _ (sm3 _ _ hTt), by rw [upd_same, List.map_append], ?_, (sm2.trans sm3).free nz⟩
            rw [List.take_add_one, hbk, List.flatMap_append, ← List.append_assoc]
            refine Paired.app (Paired.mapP hbs fun _ _ h => (h.stay (Same.tups sm3)).stay (Same.tups sz)) ?_
            simpa using Paired.mapP hes fun _ _ h => h.stay (Same.tups sz)
        · obtain ⟨m', bs, y4, rfl, sm2, hTt, hm, hbs, nm2⟩ := hP
          refine ⟨_, rfl, m', bs, _, _, _, rfl, sm.trans sm2, sm2 _ _ hsl, hm, ?_, sm.free nm2⟩
          rw [clOver_take hty]
          have e : KM.clOver (zs.take i) ++ (([false, true].take ([.bl false, .bl true] : List V).length).flatMap fun b => (KM.clOver (zs.take i)).map (· ++ [(nm, b)])) = KM.more (KM.clOver (zs.take i)) nm := by
            unfold KM.more
            rw [List.append_assoc]
            simp
          rw [e] at hbs
          exact hbs
    · obtain ⟨o', as, x2, x3, x4, rfl, sm, hsl, ho, has, no'⟩ := hP
      rw [List.take_of_length_le (by rw [List.length_map]; exact Nat.le_refl _)] at has
      have hcl : (KM.clOver zs).length ≤ 243 := by
        rw [KM.clOver_len]
        exact pow35 hzl
      refine ⟨_, rfl, o', as, _, rfl, ho, has, fun c hc l hl => ?_, by omega, hT.ext fun b u e => sm b u e, fun p as' cs' H2 eN T2 np hp hcs hmem hpw hlen => ?_⟩
      · have h1 := KM.clOver_mem.mp hc
        have h2 : l.1 ∈ zs := h1.subset (List.mem_map.mpr ⟨l, hl, rfl⟩)
        exact hok _ (hz.mem_iff.mp h2)
      · refine q p zs as' cs' H2 (fun b u e n => eN b u (sm b u e) n) T2 (sm.free np) hz hs hp hcs hmem hpw (by omega)
end
end K27
end
section
set_option maxHeartbeats 4000000
/-! shortest_of -/
namespace K27
open PySem PySem.Spec PyProof.Rows L2
theorem rising_le : ∀ (l : List Str) (p : Str), risingS p l = true → (p :: l).Pairwise fun m n => m.cps.toList ≤ n.cps.toList
  | [], p, _ => by simp
  | x :: l, p, h => by
    unfold risingS at h
    obtain ⟨h1, h2⟩ := Bool.and_eq_true_iff.mp h
    have ih := rising_le l x h2
    have hpx : p.cps.toList ≤ x.cps.toList := by
      rw [ltCps_eq] at h1
      have h3 : ¬ x.cps.toList < p.cps.toList := by simpa using h1
      exact List.not_lt.mp h3
    refine List.pairwise_cons.mpr ⟨fun y hy => ?_, ih⟩
    rcases List.mem_cons.mp hy with rfl | hy
    · exact hpx
    · exact List.le_trans hpx ((List.pairwise_cons.mp ih).1 y hy)
theorem str_ext {x y : Str} (h : x.cps.toList = y.cps.toList) : x = y := PySem.W.str_of_cps h
theorem sorted_lt {l : List Str} (h : sortedS l = true) (hn : l.Nodup) : l.Pairwise fun m n => m.cps.toList < n.cps.toList := by
  have h1 : l.Pairwise fun m n => m.cps.toList ≤ n.cps.toList := by
    cases l with
    | nil => exact .nil
    | cons x l => exact rising_le l x h
  have h2 : l.Pairwise fun m n => m ≠ n := hn
  refine (List.Pairwise.and h1 h2).imp fun {m n} ⟨a, b⟩ => ?_
  rcases List.le_iff_lt_or_eq.mp a with c | c
  · exact c
  · exact absurd (str_ext c) b
theorem told_step {fol : Cl → Bool} {L : List Cl} {i : Nat} {c : Cl} (h : L[i]? = some c) : (L.take (i + 1)).foldl (KM.tStep fol) [] = KM.tStep fol ((L.take i).foldl (KM.tStep fol) []) c := by
  rw [List.take_add_one, h, List.foldl_append]
  rfl
def spShort (T : List (Addr × Str)) : Sp := fun vs H Q _ => ∃ (t : Addr) (r : Rl), vs = [.ref t] ∧ RuleAt H r t ∧ r.depth ≤ 6 ∧ Few r ∧ (∀ n ∈ r.names, PyData.strOk n = true) ∧ LamX.Tabs T H ∧
  ∀ (p : Addr) (ys zs : List Str) (L : List Cl) (as : List Addr) (H' : Hp), LamX.ExtN H H' → H p = none → KM.Given r ys zs L → (zs.Pairwise fun m n => m.cps.toList < n.cps.toList) → (∀ n ∈ zs, n ∈ r.names) → zs.length ≤ 5 → L.length ≤ 243 →
    H' p = some (.lst (as.map V.ref)) → Paired (ClAt H') as (KM.toldR r ys L) → Q (.ref p) H'
section
variable {P : Program} {w : World} {K : PySem.W.Frag} {mg : Str → Option Value} {base : Heap} {f : Addr} {fd : FuncData}
theorem ok_short {T : List (Addr × Str)} (F : FnP K "shortest_of" sShortestOf f fd) (B : Blt mg) (RU : Cal P w K mg base 9 "rows_under" ["rule"] spRows) (NM : Cal P w K mg base 7 "names_of" ["rule"] spNm) (OV : Cal P w K mg base 4 "clauses_over" ["names"] (spOver T))
    (PA : Cal P w K mg base 1 "is_clause_part" ["one", "other"] spPart) (ST : Cal P w K mg base 1 "stands_in" ["rows", "clause"] spStands) : FnOk P w K mg base CX0 10 f fd ["rule"] (spShort T) := by
  have nd := cShortestOf.nd
  refine F.okn cShortestOf (fun vs H Q E h => ?_) (fun cdv A outer s H vs Q E hr h => ?_)
  · obtain ⟨t, r, rfl, _⟩ := h
    rfl
  · obtain ⟨t, r, rfl, hR, hd, hfew, hok, hT, q⟩ := h
    refine ⟨_, pss_cons (ps_set (i := 1) nd rfl (.inl rfl) (pe_cal RU hr (by rfl) (pa_cons (pv 0) pa_nil)))
      (pss_cons (ps_set (i := 2) nd rfl (.inl rfl) (pe_lst pa_nil))
      (pss_cons (ps_for PassesOwn.never rfl (pi_list (pe_cal OV (hr.mono (by decide)) (by rfl) (pa_cons (pe_cal NM (hr.mono (by decide)) (by rfl) (pa_cons (pv 0) pa_nil)) pa_nil))) (pg_name (i := 3) nd rfl (Or.inr rfl))
        (pss_one (ps_if (PW.pt (pw_and (pt_not (pt_val (pe_callB (cr_any rfl) (by rfl) B.any (by decide +kernel) (pa_cons (pe_lc (own := [("one", 4)]) (g := gName 4) (by rfl) nd (pi_list (pv 2)) (blkOk_by (own := [("one", 4)]) (N := nShortestOf) (sc := defScope sShortestOf) (by decide +kernel))
              (fun _ _ _ _ _ => pg_name (i := 4) nd rfl (.inl rfl)) (fun _ _ _ _ _ => pts_nil) (fun _ _ _ _ _ => pe_cal PA (hr.mono (by decide)) (by rfl) (pa_cons (pv 4) (pa_cons (pv 3) pa_nil)))) pa_nil))))
            (pw_and1 (pt_val (pe_cal ST (hr.mono (by decide)) (by rfl) (pa_cons (pv 1) (pa_cons (pv 3) pa_nil)))))))
          (pss_one (ps_expr (pe_bm PySem.F.plainAttrs_list PySem.F.slot_list_append PySem.F.type_list_append mt_append (pv 2) (pa_cons (pv 3) pa_nil)))) pss_nil)))
      (pss_one (ps_ret (pv 2))))), ?_⟩
    -- rows
    refine ⟨_, rfl, t, r, rfl, hR, hd, hfew, fun pr ys dr H1 sm1 npr hyn hym hpr hdr => ?_⟩
    refine ⟨Nat.zero_le _, fun o no => ?_⟩
    have s2 := same_new no (.lst [])
    have sm2 := sm1.trans s2
    -- names
    refine ⟨_, rfl, t, r, rfl, RuleAt.stay (Same.tups sm2) hR, hd, fun pn ns H2 sm3 npn hpn hnn hnm _ => ?_⟩
    have h5 := hfew.le hnn fun n hn => (hnm n).mp hn
    have sm03 := sm2.trans sm3
    have ho2 : H2 o = some (.lst []) := sm3 _ _ upd_same
    have hpr2 : H2 pr = some (.lst (dr.map V.ref)) := sm3 _ _ (s2 _ _ hpr)
    -- clauses
    refine ⟨pn, ns, rfl, hpn, hnn, h5, fun n hn => hok n ((hnm n).mp hn), hT.ext fun b u e => sm03 b u e, fun p zs as L H3 eN T3 np3 hz hzs hp hcs hmem hpw hlen => ?_⟩
    have hzn : zs.Nodup := hz.nodup_iff.mpr hnn
    have hzm : ∀ n, n ∈ zs ↔ n ∈ r.names := fun n => (hz.mem_iff).trans (hnm n)
    have G : KM.Given r ys zs L := ⟨fun n hn => (hym n).mpr hn, fun n => (hzm n).trans (hym n).symm, hzn, fun c => (hmem c).trans KM.clOver_mem, hpw⟩
    have hokL : ∀ c ∈ L, LitsOk c := fun c hc l hl => hok _ ((hzm _).mp (((G.lm c).mp hc).subset (List.mem_map.mpr ⟨l, hl, rfl⟩)))
    have hlenL : ∀ c ∈ L, c.length ≤ 5 := fun c hc => by
      have h1 := ((G.lm c).mp hc).length_le
      rw [List.length_map, hz.length_eq] at h1
      omega
    have ho3 : H3 o = some (.lst []) := eN _ _ ho2 fun ps z => by cases z
    have hpr3 : H3 pr = some (.lst (dr.map V.ref)) := eN _ _ hpr2 fun ps z => by cases z
    have hdr3 : Paired (FactsAt H3) dr (KM.rowsU r ys) := Paired.mapP hdr fun a g h => eN _ _ (sm3 _ _ (s2 _ _ h)) fun ps z => by cases z
    have hop : o ≠ p := ne_of_none ho2 np3
    have hopr : o ≠ pr := (ne_of_none hpr no).symm
    have e03 : LamX.ExtN H H3 := fun b u e n => eN b u (sm03 b u e) n
    refine ⟨p, rfl, ⟨_, SqL.of hp⟩, for_list (K := K) (a := p) (xs := as.map V.ref) (fun i σ H4 => ∃ (es : List Addr) (x3 : Option V), σ = [some (.ref t), some (.ref pr), some (.ref o), x3, none] ∧ ButL o H3 H4 ∧ H4 o = some (.lst (es.map V.ref)) ∧ Paired (ClAt H3) es ((L.take i).foldl (KM.tStep (KM.folBy (KM.rowsU r ys))) [])) ?_ (fun i σ H4 _ hP => ?_) (fun i x σ H4 hx hP => ?_) fun σ H4 hP => ?_⟩
    · exact ⟨[], none, rfl, fun b u _ e => e, ho3, .nil⟩
    · obtain ⟨es, x3, rfl, bt, _⟩ := hP
      exact SqL.of (bt _ _ hop.symm hp)
    · obtain ⟨es, x3, rfl, bt, ho4, hes⟩ := hP
      obtain ⟨ai, hai, rfl⟩ := item_of hx
      obtain ⟨ci, hci, hcl⟩ := Paired.atL hcs hai
      have tp := tups_but bt ho3
      have hcl4 : ClAt H4 ai ci := hcl.stay tp
      have hciL := List.mem_of_getElem? hci
      have estep := told_step (fol := KM.folBy (KM.rowsU r ys)) hci
      obtain ⟨acc, eacc⟩ : ∃ acc, (L.take i).foldl (KM.tStep (KM.folBy (KM.rowsU r ys))) [] = acc := ⟨_, rfl⟩
      rw [eacc] at hes estep
      have hsub : acc.Sublist L := by
        rw [← eacc]
        exact (KM.told_sub _ (L.take i)).trans (List.take_sublist _ _)
      have hel : es.length ≤ 243 := by
        rw [Paired.len hes]
        exact Nat.le_trans hsub.length_le hlen
      have hes4 : Paired (ClAt H4) es acc := Paired.mapP hes fun _ _ h => h.stay tp
      -- any
      refine ⟨_, rfl, o, rfl, ⟨_, SqL.of ho4⟩, fun D nD => lc_list (K := K) (a := o) (xs := es.map V.ref) (fun j H5 => Same H4 H5 ∧ H5 D = some (.lst (((acc.take j).map fun c => KM.part c ci).map V.bl))) ?_ (fun j H5 _ hP => ?_) (fun j y H5 hy hP => ?_) fun H5 hP => ?_⟩
      · exact ⟨same_new nD _, upd_same⟩
      · exact SqL.of (hP.1 _ _ ho4)
      · obtain ⟨s5, hD⟩ := hP
        obtain ⟨aj, haj, rfl⟩ := item_of hy
        obtain ⟨cj, hcj, hclj⟩ := Paired.atL hes4 haj
        have hjL := hsub.subset (List.mem_of_getElem? hcj)
        have hjlt : j < acc.length := (List.getElem?_eq_some_iff.mp hcj).1
        have hal := Paired.len hes4
        refine ⟨rfl, _, rfl, _, rfl, aj, ai, cj, ci, rfl, hclj.stay (Same.tups s5), hcl4.stay (Same.tups s5), hokL cj hjL, hokL ci hciL, Nat.le_trans (hlenL cj hjL) (by decide), fun H6 s6 => ⟨_, s6 _ _ hD, by rw [List.length_map, List.length_map, List.length_take]; exact small1000 (by omega), fun b u eb => ?_, ?_⟩⟩
        · rw [upd_ne (ne_of_none eb nD)]
          exact s6 _ _ (s5 _ _ eb)
        · rw [upd_same, List.take_add_one, hcj, List.map_append, List.map_append]
          rfl
      · obtain ⟨s5, hD⟩ := hP
        rw [List.take_of_length_le (by rw [List.length_map, Paired.len hes4]; exact Nat.le_refl _)] at hD
        refine ⟨D, _, rfl, SqL.of hD, _, rfl, ?_⟩
        rw [List.any_map]
        have eany : (acc.any (id ∘ fun c => KM.part c ci)) = acc.any fun c => KM.part c ci := rfl
        rw [eany]
        have ho5 : H5 o = some (.lst (es.map V.ref)) := s5 _ _ ho4
        -- the told ones stay
        have stay : ∀ H6 : Hp, Same H5 H6 → KM.tStep (KM.folBy (KM.rowsU r ys)) acc ci = acc → ∃ (es' : List Addr) (x3 : Option V), [some (.ref t), some (.ref pr), some (.ref o), some (.ref ai), none] = [some (.ref t), some (.ref pr), some (.ref o), x3, none] ∧ ButL o H3 H6 ∧ H6 o = some (.lst (es'.map V.ref)) ∧ Paired (ClAt H3) es' ((L.take (i + 1)).foldl (KM.tStep (KM.folBy (KM.rowsU r ys))) []) := fun H6 s6 es6 => by
          refine ⟨es, _, rfl, fun b u nb eb => s6 _ _ (s5 _ _ (bt b u nb eb)), s6 _ _ ho5, ?_⟩
          rw [estep, es6]
          exact hes
        cases ea : acc.any fun c => KM.part c ci with
        | true =>
          refine stay H5 (Same.refl _) ?_
          unfold KM.tStep
          rw [ea]
          rfl
        | false =>
          refine ⟨_, rfl, _, rfl, pr, ai, dr, KM.rowsU r ys, ci, rfl, s5 _ _ (bt _ _ hopr.symm hpr3), Paired.mapP hdr3 fun a g h => s5 _ _ (bt _ _ (ne_of h ho3 (by intro z; cases z)) h), hcl4.stay (Same.tups s5), Nat.le_trans (hlenL ci hciL) (by decide), fun H6 s6 => ⟨_, rfl, ?_⟩⟩
          cases ef : KM.folBy (KM.rowsU r ys) ci with
          | false =>
            refine stay H6 s6 ?_
            unfold KM.tStep
            rw [ef, Bool.and_false]
            rfl
          | true =>
            have ho6 := s6 _ _ ho5
            refine ⟨_, rfl, .inl ⟨rfl, _, SqL.of ho6⟩, _, rfl, o, _, _, rfl, rfl, ho6, by rw [List.length_map]; exact small1000 (by omega), es ++ [ai], _, rfl, fun b u nb eb => ?_, ?_, ?_⟩
            · rw [upd_ne nb]
              exact s6 _ _ (s5 _ _ (bt b u nb eb))
            · rw [upd_same, List.map_append]
              rfl
            · have e2 : KM.tStep (KM.folBy (KM.rowsU r ys)) acc ci = acc ++ [ci] := by
                unfold KM.tStep
                rw [ea, ef]
                rfl
              rw [estep, e2]
              exact Paired.app hes (.cons hcl .nil)
    · obtain ⟨es, x3, rfl, bt, ho4, hes⟩ := hP
      rw [List.take_of_length_le (by rw [List.length_map, Paired.len hcs]; exact Nat.le_refl _)] at hes
      have no0 : H o = none := sm1.free no
      exact ⟨_, rfl, q o ys zs L es H4 (fun b u e n => bt b u (ne_of_none e no0) (e03 b u e n)) no0 G (sorted_lt hzs hzn) (fun n hn => (hzm n).mp hn) (by rw [hz.length_eq]; exact h5) hlen ho4 (Paired.mapP hes fun _ _ h => h.stay (tups_but bt ho3))⟩
end
end K27
end
section
set_option maxHeartbeats 4000000
/-! the law -/
namespace K27
open PySem PySem.Spec PyProof.Rows L2
def spLaw (K : PySem.W.Frag) (T : List (Addr × Str)) : Sp := fun vs H Q _ => ∃ (a : Addr) (ns : List Int), vs = [.ref a] ∧ SqL K H a (ns.map V.int) ∧ LamX.Tabs T H ∧ ∀ H', Q (.bl true) H'
section
variable {P : Program} {w : World} {K : PySem.W.Frag} {mg : Str → Option Value} {base : Heap} {f : Addr} {fd : FuncData}
theorem ok_law {T : List (Addr × Str)} (F : FnP K "law" sLaw f fd) (B : Blt mg) (HA : Cal P w K mg base 1 "_law_hand" ["_law_script"] (spHand K)) (D : Cal P w K mg base 3 "_law_draw" ["_law_hand_here", "_law_many"] spDraw) (NA : Cal P w K mg base 4 "_law_names" ["_law_hand_here", "_law_many"] spNames)
    (RL : Cal P w K mg base 9 "_law_rule" ["_law_hand_here", "_law_names_here", "_law_deep"] (spRule 6)) (LN : Cal P w K mg base 6 "_law_names_of" ["_law_rule_here"] (spLNm 6)) (SH : Cal P w K mg base 10 "shortest_of" ["rule"] (spShort T)) (IS : Cal P w K mg base 1 "_law_is_clause" ["_law_thing"] spLIs)
    (IN : Cal P w K mg base 1 "_law_inside" ["_law_one", "_law_other"] spLInside) (AF : Cal P w K mg base 1 "_law_all_facts" ["_law_names_here"] spAF) (LS : Cal P w K mg base 1 "_law_stands" ["_law_clause", "_law_facts"] spLStands) (LH : Cal P w K mg base 6 "_law_holds" ["_law_rule_here", "_law_facts"] (spHolds 6)) :
    FnOk P w K mg base CX0 11 f fd ["_law_script"] (spLaw K T) := by
  have nd := cLaw.nd
  refine F.okn cLaw (fun vs H Q E h => ?_) (fun cdv A outer s H vs Q E hr h => ?_)
  · obtain ⟨a, ns, rfl, _⟩ := h
    rfl
  · obtain ⟨a, ns, rfl, hS, hT, q⟩ := h
    have r1 : Room 1 _ := hr.mono (by decide)
    have r3 : Room 3 _ := hr.mono (by decide)
    have r4 : Room 4 _ := hr.mono (by decide)
    have r6 : Room 6 _ := hr.mono (by decide)
    have r9 : Room 9 _ := hr.mono (by decide)
    refine ⟨_, pss_cons (ps_set (i := 1) nd rfl (.inl rfl) (pe_cal HA r1 (by rfl) (pa_cons (pv 0) pa_nil)))
      (pss_cons (ps_set (i := 2) nd rfl (.inl rfl) (pe_cal NA r4 (by rfl) (pa_cons (pv 1) (pa_cons (pe_op op_add pe_int (pe_cal D r3 (by rfl) (pa_cons (pv 1) (pa_cons pe_int pa_nil)))) pa_nil))))
      (pss_cons (ps_set (i := 3) nd rfl (.inl rfl) (pe_cal RL r9 (by rfl) (pa_cons (pv 1) (pa_cons (pv 2) (pa_cons (pe_op op_add pe_int (pe_cal D r3 (by rfl) (pa_cons (pv 1) (pa_cons pe_int pa_nil)))) pa_nil)))))
      (pss_cons (ps_set (i := 4) nd rfl (.inr rfl) (pe_cal LN r6 (by rfl) (pa_cons (pv 3) pa_nil)))
      (pss_cons (ps_set (i := 5) nd rfl (.inl rfl) (pe_cal SH hr (by rfl) (pa_cons (pv 3) pa_nil)))
      (pss_cons (ps_if (pt_not (pt_val (pe_callB call_isi (by rfl) B.isi (by decide +kernel) (pa_cons (pv 5) (pa_cons (pe_bltn (v := .ty "list") (u := .type "list") (by rfl) B.lst (by decide +kernel) rfl) pa_nil))))) (pss_one (ps_ret pe_bl)) pss_nil)
      (pss_cons (ps_for PassesOwn.never rfl (pi_list (pv 5)) (pg_name (i := 6) nd rfl (.inl rfl))
        (pss_one (ps_if (PW.pt (pw_or (pt_not (pt_val (pe_cal IS r1 (by rfl) (pa_cons (pv 6) pa_nil)))) (pw_or1 (pt_not (pt_val (pe_callB (cr_all rfl) (by rfl) B.all (by decide +kernel) (pa_cons
            (pe_lc (own := [("_law_name", 10), ("_law_truth", 11)]) (g := gTup K 2 (gCons (gName 10) (gCons (gName 11) gNil))) (by rfl) nd (pi_tup (pv 6)) (blkOk_by (own := [("_law_name", 10), ("_law_truth", 11)]) (N := nLaw) (sc := defScope sLaw) (by decide +kernel))
            (fun _ _ _ _ _ => pg_tup rfl (pgs_cons (pg_name (i := 10) nd rfl (.inl rfl)) (pgs_cons (pg_name (i := 11) nd rfl (.inl rfl)) pgs_nil))) (fun _ _ _ _ _ => pts_nil) (fun _ _ _ _ _ => pe_cmpR (r := rIn K false) op_in_seq (pv 10) (pv 4) rfl)) pa_nil)))))))
          (pss_one (ps_ret pe_bl)) pss_nil)))
      (pss_cons (ps_for PassesOwn.never rfl (pi_range1 rfl B.range (pa_cons (pe_callB call_len_seq (by rfl) B.len PySem.boot_len (pa_cons (pv 5) pa_nil)) pa_nil)) (pg_name (i := 7) nd rfl (.inl rfl))
        (pss_one (ps_for PassesOwn.never rfl (pi_range1 rfl B.range (pa_cons (pe_callB call_len_seq (by rfl) B.len PySem.boot_len (pa_cons (pv 5) pa_nil)) pa_nil)) (pg_name (i := 8) nd rfl (.inl rfl))
          (pss_one (ps_if (PW.pt (pw_and (pt_cmpR op_ne (pv 8) (pv 7) (nomark _)) (pw_and1 (pt_val (pe_cal IN r1 (by rfl) (pa_cons (pe_ix ix_list (pv 5) (pv 8) (fun _ _ => rfl)) (pa_cons (pe_ix ix_list (pv 5) (pv 7) (fun _ _ => rfl)) pa_nil)))))))
            (pss_one (ps_ret pe_bl)) pss_nil)))))
      (pss_cons (ps_for PassesOwn.never rfl (pi_list (pe_cal AF r1 (by rfl) (pa_cons (pv 4) pa_nil))) (pg_name (i := 9) nd rfl (.inr rfl))
        (pss_one (ps_if (pt_cmpR op_ne (pe_callB (cr_all rfl) (by rfl) B.all (by decide +kernel) (pa_cons
            (pe_lc (own := [("_law_clause", 6)]) (g := gName 6) (by rfl) nd (pi_list (pv 5)) (blkOk_by (own := [("_law_clause", 6)]) (N := nLaw) (sc := defScope sLaw) (by decide +kernel))
            (fun _ _ _ _ _ => pg_name (i := 6) nd rfl (.inl rfl)) (fun _ _ _ _ _ => pts_nil) (fun _ _ _ _ _ => pe_cal LS r1 (by rfl) (pa_cons (pv 6) (pa_cons (pv 9) pa_nil)))) pa_nil)) (pe_cal LH r6 (by rfl) (pa_cons (pv 3) (pa_cons (pv 9) pa_nil))) (nomark _))
          (pss_one (ps_ret pe_bl)) pss_nil)))
      (pss_one (ps_ret pe_bl)))))))))), ?_⟩
    -- hand, names, rule
    refine ⟨_, rfl, a, ns, rfl, hS, fun h l H1 ha1 nh s1 => ?_⟩
    refine ⟨_, rfl, _, rfl, h, l, 5, rfl, ha1, by decide, by decide, fun n5 H2 n0 n1 ha2 b2 => ?_⟩
    refine ⟨_, _, rfl, rfl, h, l, 1 + n5, rfl, ha2, by omega, by omega, fun pn names H3 hnl hnok ha3 b3 npn hpn => ?_⟩
    refine ⟨_, rfl, _, rfl, _, rfl, h, l, 6, rfl, ha3, by decide, by decide, fun d6 H4 d0 d1 ha4 b4 => ?_⟩
    have pnh : pn ≠ h := (ha2.ne (H' := H2) npn).1
    refine ⟨_, _, rfl, rfl, h, l, pn, 1 + d6, names, rfl, ha4, b4 _ _ pnh hpn, pnh, by omega, by omega, by omega, by omega, fun t r H5 hR hdep hsub ha5 b5 => ?_⟩
    have hd6 : r.depth ≤ 6 := by omega
    have hfew : Few r := ⟨names, by omega, hsub⟩
    have hrok : ∀ n ∈ r.names, PyData.strOk n = true := fun n hn => hnok n (hsub n hn)
    have bt : ButL h H1 H5 := fun b u nb e => b5 b u nb (b4 b u nb (b3 b u nb (b2 b u nb e)))
    have T5 : LamX.Tabs T H5 := by
      obtain ⟨ns', p', b', c', u', v', hh, _⟩ := ha1
      exact tabs_but bt hh (hT.ext fun b u e => s1 b u e)
    -- own, told
    refine ⟨_, rfl, t, r, rfl, hR, hd6, hd6, fun po ow H6 s6 npo hpo hon hom => ?_⟩
    refine ⟨_, rfl, t, r, rfl, RuleAt.stay (Same.tups s6) hR, hd6, hfew, hrok, T5.ext fun b u e => s6 b u e, fun p ys zs L as H7 eN np7 G hzs hzr hz5 hL hp7 hcs => ?_⟩
    have hR7 : RuleAt H7 r t := RuleAt.stay (ExtN.tups eN) (RuleAt.stay (Same.tups s6) hR)
    have hpo7 : H7 po = some (.lst (ow.map V.str)) := eN _ _ hpo fun ps z => by cases z
    have how5 : ow.length ≤ 5 := hfew.le hon fun n hn => (hom n).mp hn
    have htoldL : (KM.toldR r ys L).Sublist L := KM.told_sub _ _
    have hasl : as.length ≤ 243 := by
      rw [Paired.len hcs]
      exact Nat.le_trans htoldL.length_le hL
    have hcn : ∀ c ∈ KM.toldR r ys L, (c.map (·.1)).Sublist zs := fun c hc => KM.told_names G hc
    have hclen : ∀ c ∈ KM.toldR r ys L, c.length ≤ 5 := fun c hc => by
      have h1 := (hcn c hc).length_le
      rw [List.length_map] at h1
      omega
    have hcok : ∀ c ∈ KM.toldR r ys L, LitsOk c := fun c hc x hx => hrok _ (hzr _ ((hcn c hc).subset (List.mem_map.mpr ⟨x, hx, rfl⟩)))
    refine ⟨_, rfl, _, _, _, _, true, rfl, ClsV.ty _, TyX.base (TyOf.lst hp7), kit_ty (by decide +kernel), _, rfl, iteF ?_⟩
    have htm : ∀ {i : Nat} {c : Cl}, (KM.toldR r ys L)[i]? = some c → c ∈ KM.toldR r ys L := fun h => List.mem_of_getElem? h
    -- every told one is a clause, of the rule's own names
    refine ⟨_, rfl, p, rfl, ⟨_, SqL.of hp7⟩, for_list (K := K) (a := p) (xs := as.map V.ref) (fun i σ H' => ∃ x6 : Option V, σ = [some (.ref a), some (.ref h), some (.ref pn), some (.ref t), some (.ref po), some (.ref p), x6, none, none, none, none, none] ∧ Same H7 H') ⟨_, rfl, Same.refl _⟩ (fun i σ H8 _ hP => ?_) (fun i x σ H8 hx hP => ?_) fun σ H8 hP => ?_⟩
    · obtain ⟨x6, rfl, sm⟩ := hP
      exact SqL.of (sm _ _ hp7)
    · obtain ⟨x6, rfl, sm⟩ := hP
      obtain ⟨ai, hai, rfl⟩ := item_of hx
      obtain ⟨ci, hci, hcl⟩ := Paired.atL hcs hai
      have hcm := htm hci
      have hc5 := hclen ci hcm
      have hcl8 : ClAt H8 ai ci := hcl.stay (Same.tups sm)
      refine ⟨_, rfl, ai, ci, rfl, hcl8, by omega, ?_, fun H9 s9 => ?_⟩
      · exact hzs.sublist (hcn ci hcm)
      have hcl9 : ClAt H9 ai ci := hcl8.stay (Same.tups s9)
      have sm79 := sm.trans s9
      obtain ⟨ls, hls, hlit⟩ := id hcl9
      refine ⟨_, rfl, iteF ?_⟩
      refine ⟨_, rfl, ai, rfl, ⟨_, SqT.of hls⟩, fun D nD => lc_tup (K := K) (a := ai) (xs := ls.map V.ref) (fun j Hj => Same H9 Hj ∧ Hj D = some (.lst ((List.replicate j true).map V.bl))) ?_ (fun j Hj _ hP => ?_) (fun j y Hj hy hP => ?_) fun Hj hP => ?_⟩
      · exact ⟨same_new nD _, upd_same⟩
      · exact SqT.of (hP.1 _ _ hls)
      · obtain ⟨sm2, hD⟩ := hP
        obtain ⟨la, hla, rfl⟩ := item_of hy
        obtain ⟨l, hlj, hlt⟩ := Paired.atL hlit hla
        have hlt' : Hj la = some (.tup [.str l.1, .bl l.2]) := sm2 _ _ hlt
        have hj : j < ci.length := (List.getElem?_eq_some_iff.mp hlj).1
        have hin : l.1 ∈ ow := (hom _).mpr (hzr _ ((hcn ci hcm).subset (List.mem_map.mpr ⟨l, List.mem_of_getElem? hlj, rfl⟩)))
        refine ⟨la, _, rfl, SqT.of hlt', rfl, _, _, rfl, _, _, rfl, rfl, rfl, _, rfl, _, rfl, po, _, rfl, .inl (SqL.of (sm2 _ _ (sm79 _ _ hpo7))), rfl, flat_strs _, _, hD, by rw [List.length_map, List.length_replicate]; exact small1000 (by omega), fun b' u eb => ?_, ?_⟩
        · rw [upd_ne (ne_of_none eb nD)]
          exact sm2 _ _ eb
        · rw [upd_same, inV_str, decide_eq_true hin, List.replicate_succ', List.map_append]
          rfl
      · obtain ⟨sm2, hD⟩ := hP
        refine ⟨D, _, rfl, SqL.of hD, _, rfl, ?_⟩
        have e : (List.replicate (ls.map V.ref).length true).all id = true := by simp
        rw [e]
        exact ⟨_, rfl, sm79.trans sm2⟩
    obtain ⟨x6, rfl, sm8⟩ := hP
    have hp8 := sm8 _ _ hp7
    have hpo8 := sm8 _ _ hpo7
    have hR8 : RuleAt H8 r t := RuleAt.stay (Same.tups sm8) hR7
    have hcs8 : Paired (ClAt H8) as (KM.toldR r ys L) := Paired.mapP hcs fun _ _ h => h.stay (Same.tups sm8)
    have hlen8 : (as.map V.ref).length = as.length := List.length_map _
    -- no told one is inside another one
    refine ⟨_, rfl, p, _, rfl, .inl (SqL.of hp8), _, rfl, by omega, by omega, for_range (lo := 0) (n := (((as.map V.ref).length : Nat) : Int).toNat) (fun i σ H' => ∃ x6 x7 x8 : Option V, σ = [some (.ref a), some (.ref h), some (.ref pn), some (.ref t), some (.ref po), some (.ref p), x6, x7, x8, none, none, none] ∧ H8 = H') ⟨_, _, _, rfl, rfl⟩ (fun i σ H9 hi hP => ?_) fun σ H9 hP => ?_⟩
    · obtain ⟨x6, x7, x8, rfl, rfl⟩ := hP
      refine ⟨_, rfl, p, _, rfl, .inl (SqL.of hp8), _, rfl, by omega, by omega, for_range (lo := 0) (n := (((as.map V.ref).length : Nat) : Int).toNat) (fun j σ H' => ∃ x8 : Option V, σ = [some (.ref a), some (.ref h), some (.ref pn), some (.ref t), some (.ref po), some (.ref p), x6, some (.int (0 + (i : Nat))), x8, none, none, none] ∧ H8 = H') ⟨_, rfl, rfl⟩ (fun j σ H9 hj hP => ?_) fun σ H9 hP => ?_⟩
      · obtain ⟨x8, rfl, rfl⟩ := hP
        refine ⟨_, rfl, _, rfl, rfl, _, rfl, ?_⟩
        by_cases e : j = i
        · subst e
          refine iteNS rfl ?_
          exact ⟨_, rfl, rfl⟩
        · have hv : V.int (0 + (j : Nat)) ≠ V.int (0 + (i : Nat)) := fun z => by
            injection z with z
            omega
          rw [decide_eq_false hv]
          have hi' : i < as.length := by omega
          have hj' : j < as.length := by omega
          obtain ⟨ci, hci, hcli⟩ := Paired.atL hcs8 (List.getElem?_eq_getElem hi')
          obtain ⟨cj, hcj, hclj⟩ := Paired.atL hcs8 (List.getElem?_eq_getElem hj')
          have hap : KM.part cj ci = false := KM.told_apart G hcj hci e
          refine ⟨_, rfl, _, rfl, p, _, _, .ref as[j], rfl, rfl, SqL.of hp8, atI_of (n := j) (by omega) (by rw [List.getElem?_map, List.getElem?_eq_getElem hj']; rfl), _, rfl, _, rfl, p, _, _, .ref as[i], rfl, rfl, SqL.of hp8, atI_of (n := i) (by omega) (by rw [List.getElem?_map, List.getElem?_eq_getElem hi']; rfl),
            as[j], as[i], cj, ci, rfl, hclj, hcli, hcok cj (htm hcj), hcok ci (htm hci), _, rfl, ?_⟩
          rw [hap]
          exact ⟨_, rfl, rfl⟩
      · obtain ⟨x8, rfl, rfl⟩ := hP
        exact ⟨_, _, _, rfl, rfl⟩
    obtain ⟨x6, x7, x8, rfl, rfl⟩ := hP
    -- under all facts the rule holds just where all the told ones stand
    refine ⟨_, rfl, po, ow, rfl, hpo8, hon, how5, fun pf yf ds H9 s9 npf hperm hpf hds => ?_⟩
    have hyf : ∀ n, n ∈ r.names → n ∈ yf := fun n hn => hperm.mem_iff.mpr ((hom n).mpr hn)
    refine ⟨pf, rfl, ⟨_, SqL.of hpf⟩, for_list (K := K) (a := pf) (xs := ds.map V.ref) (fun i σ H' => ∃ x9 : Option V, σ = [some (.ref a), some (.ref h), some (.ref pn), some (.ref t), some (.ref po), some (.ref p), x6, x7, x8, x9, none, none] ∧ Same H9 H') ⟨_, rfl, Same.refl _⟩ (fun i σ H10 _ hP => ?_) (fun i x σ H10 hx hP => ?_) fun σ H10 hP => ?_⟩
    · obtain ⟨x9, rfl, sm⟩ := hP
      exact SqL.of (sm _ _ hpf)
    · obtain ⟨x9, rfl, sm⟩ := hP
      obtain ⟨di, hdi, rfl⟩ := item_of hx
      obtain ⟨fi, hfi, hF⟩ := Paired.atL hds hdi
      have hfm := List.mem_of_getElem? hfi
      have hF10 : FactsAt H10 di fi := FactsAt.keep sm hF
      have sm810 := s9.trans sm
      have hp10 := sm810 _ _ hp8
      have hcs10 : Paired (ClAt H10) as (KM.toldR r ys L) := Paired.mapP hcs8 fun _ _ h => h.stay (Same.tups sm810)
      have hR10 : RuleAt H10 r t := RuleAt.stay (Same.tups sm810) hR8
      have hlook : ∀ c ∈ KM.toldR r ys L, ∀ l ∈ c, ∃ b, fi.lookup l.1 = some b := fun c hc l hl => by
        have h1 : l.1 ∈ fi.map (·.1) := by
          rw [KM.allF_out hfm]
          exact hyf _ (hzr _ ((hcn c hc).subset (List.mem_map.mpr ⟨l, hl, rfl⟩)))
        exact ⟨_, KM.look_some h1⟩
      refine ⟨_, rfl, p, rfl, ⟨_, SqL.of hp10⟩, fun D nD => lc_list (K := K) (a := p) (xs := as.map V.ref) (fun j Hj => Same H10 Hj ∧ Hj D = some (.lst ((((KM.toldR r ys L).take j).map (KM.cHolds (KM.val fi))).map V.bl))) ?_ (fun j Hj _ hP => ?_) (fun j y Hj hy hP => ?_) fun Hj hP => ?_⟩
      · exact ⟨same_new nD _, upd_same⟩
      · exact SqL.of (hP.1 _ _ hp10)
      · obtain ⟨sm2, hD⟩ := hP
        obtain ⟨aj, haj, rfl⟩ := item_of hy
        obtain ⟨cj, hcj, hclj⟩ := Paired.atL hcs10 haj
        have hjlt : j < (KM.toldR r ys L).length := (List.getElem?_eq_some_iff.mp hcj).1
        have hal := Paired.len hcs10
        refine ⟨rfl, _, rfl, _, rfl, aj, di, cj, fi, rfl, hclj.stay (Same.tups sm2), FactsAt.keep sm2 hF10, hlook cj (htm hcj), _, hD, by rw [List.length_map, List.length_map, List.length_take]; exact small1000 (by omega), fun b' u eb => ?_, ?_⟩
        · rw [upd_ne (ne_of_none eb nD)]
          exact sm2 _ _ eb
        · rw [upd_same, List.take_add_one, hcj, List.map_append, List.map_append]
          rfl
      · obtain ⟨sm2, hD⟩ := hP
        rw [List.take_of_length_le (by rw [List.length_map, Paired.len hcs10]; exact Nat.le_refl _)] at hD
        refine ⟨D, _, rfl, SqL.of hD, _, rfl, _, rfl, t, di, r, fi, rfl, RuleAt.stay (Same.tups sm2) hR10, FactsAt.keep sm2 hF10, has_of hfm hyf, hd6, rfl, _, rfl, ?_⟩
        have e : (((KM.toldR r ys L).map (KM.cHolds (KM.val fi))).all id) = r.ev (KM.val fi) := by
          rw [List.all_map]
          exact KM.told_is G (KM.val fi)
        rw [e]
        refine iteNS rfl ?_
        exact ⟨_, rfl, sm.trans sm2⟩
    · obtain ⟨x9, rfl, sm⟩ := hP
      exact q _
end
end K27
end
section
set_option maxHeartbeats 4000000
/-! all defs together -/
namespace K27
open PySem PySem.Spec PyProof.Rows L2
section
variable {P : Program} {w : World} {K : PySem.W.Frag} {mg : Str → Option Value} {base : Heap} {f : Addr} {fd : FuncData}
theorem none_rule {k : Nat} {ps : List Str} : FnOk P w K mg base CX0 k f fd ps (spRule 0) := by
  have no : ∀ vs H Q E, ¬ spRule 0 vs H Q E := fun vs H Q E h => by
    obtain ⟨_, _, _, _, _, _, _, _, _, _, _, d1, d2, _⟩ := h
    have d2' : _ ≤ (0 : Int) := d2
    omega
  exact ⟨fun vs H Q E h => absurd h (no vs H Q E), fun A outer s H args us vs Q E _ _ _ _ h => absurd h (no vs H Q E)⟩
theorem cal_under {fd : FuncData} (F : FnP K "holds_under" sHoldsUnder f fd) (hm : mg "holds_under" = some (.ref f)) : ∀ n, Cal P w K mg base n "holds_under" ["rule", "facts"] (spHolds n)
  | 0 => cal_of F hm none_holds fun _ _ _ _ _ _ us hl => match us, hl with | [_, _], _ => rfl
  | n + 1 => cal_of F hm (ok_under F (cal_under F hm n)) fun _ _ _ _ _ _ us hl => match us, hl with | [_, _], _ => rfl
theorem cal_lholds {fd : FuncData} (F : FnP K "_law_holds" sLawHolds f fd) (hm : mg "_law_holds" = some (.ref f)) : ∀ n, Cal P w K mg base n "_law_holds" ["_law_rule_here", "_law_facts"] (spHolds n)
  | 0 => cal_of F hm none_holds fun _ _ _ _ _ _ us hl => match us, hl with | [_, _], _ => rfl
  | n + 1 => cal_of F hm (ok_lholds F (cal_lholds F hm n)) fun _ _ _ _ _ _ us hl => match us, hl with | [_, _], _ => rfl
theorem cal_all {fd : FuncData} (F : FnP K "all_names_in" sAllNamesIn f fd) (hm : mg "all_names_in" = some (.ref f)) : ∀ n, Cal P w K mg base n "all_names_in" ["rule"] (spAll n)
  | 0 => cal_of F hm none_all fun _ _ _ _ _ _ us hl => match us, hl with | [_], _ => rfl
  | n + 1 => cal_of F hm (ok_all F (cal_all F hm n)) fun _ _ _ _ _ _ us hl => match us, hl with | [_], _ => rfl
theorem cal_lnm {fd : FuncData} (F : FnP K "_law_names_of" sLawNamesOf f fd) (hm : mg "_law_names_of" = some (.ref f)) (B : Blt mg) : ∀ n, Cal P w K mg base n "_law_names_of" ["_law_rule_here"] (spLNm n)
  | 0 => cal_of F hm none_lnm fun _ _ _ _ _ _ us hl => match us, hl with | [_], _ => rfl
  | n + 1 => cal_of F hm (ok_lnm F B (cal_lnm F hm B n)) fun _ _ _ _ _ _ us hl => match us, hl with | [_], _ => rfl
theorem cal_rule {fd : FuncData} (F : FnP K "_law_rule" sLawRule f fd) (hm : mg "_law_rule" = some (.ref f)) (B : Blt mg) (D : Cal P w K mg base 3 "_law_draw" ["_law_hand_here", "_law_many"] spDraw) : ∀ n, Cal P w K mg base (3 + n) "_law_rule" ["_law_hand_here", "_law_names_here", "_law_deep"] (spRule n)
  | 0 => cal_of F hm none_rule fun _ _ _ _ _ _ us hl => match us, hl with | [_, _, _], _ => rfl
  | n + 1 => cal_of F hm (ok_rule F B D (cal_rule F hm B D n)) fun _ _ _ _ _ _ us hl => match us, hl with | [_, _, _], _ => rfl
end
theorem facts {P : Program} {w : World} {K : PySem.W.Frag} {h : Heap} {mg : Str → Option Value} {fa : Addr} (l : PySem.W.OpenLaw) (hP : l.prog = P) (X : K.In h) (G : h.Ns mainGlobals mg) (hfa : mg ("law" : Str) = some (.ref fa)) (c : He.SaysX hFa hFn [] hTf (fun _ => true) w h K) :
    LamX.LawAtS l w K CX0 11 63 "_law_script" mg fa h := by
  subst hP
  have d := c.t.d
  obtain ⟨fd0, F0⟩ : ∃ fd, FnP K "all_names_in" sAllNamesIn (He.fAd K ("all_names_in", none)) fd := d.def_ 0 (d := dAllNamesIn) rfl
  obtain ⟨fd1, F1⟩ : ∃ fd, FnP K "names_of" sNamesOf (He.fAd K ("names_of", none)) fd := d.def_ 1 (d := dNamesOf) rfl
  obtain ⟨fd2, F2⟩ : ∃ fd, FnP K "clauses_in_order" sClausesInOrder (He.fAd K ("clauses_in_order", none)) fd := d.def_ 2 (d := dClausesInOrder) rfl
  obtain ⟨fd3, F3⟩ : ∃ fd, FnP K "is_clause_part" sIsClausePart (He.fAd K ("is_clause_part", none)) fd := d.def_ 3 (d := dIsClausePart) rfl
  obtain ⟨fd4, F4⟩ : ∃ fd, FnP K "holds_under" sHoldsUnder (He.fAd K ("holds_under", none)) fd := d.def_ 4 (d := dHoldsUnder) rfl
  obtain ⟨fd5, F5⟩ : ∃ fd, FnP K "holds" sHolds (He.fAd K ("holds", none)) fd := d.def_ 5 (d := dHolds) rfl
  obtain ⟨fd6, F6⟩ : ∃ fd, FnP K "all_facts" sAllFacts (He.fAd K ("all_facts", none)) fd := d.def_ 6 (d := dAllFacts) rfl
  obtain ⟨fd7, F7⟩ : ∃ fd, FnP K "rows_under" sRowsUnder (He.fAd K ("rows_under", none)) fd := d.def_ 7 (d := dRowsUnder) rfl
  obtain ⟨fd8, F8⟩ : ∃ fd, FnP K "stands_in" sStandsIn (He.fAd K ("stands_in", none)) fd := d.def_ 8 (d := dStandsIn) rfl
  obtain ⟨fd9, F9⟩ : ∃ fd, FnP K "clauses_over" sClausesOver (He.fAd K ("clauses_over", none)) fd := d.def_ 9 (d := dClausesOver) rfl
  obtain ⟨fd10, F10⟩ : ∃ fd, FnP K "shortest_of" sShortestOf (He.fAd K ("shortest_of", none)) fd := d.def_ 10 (d := dShortestOf) rfl
  obtain ⟨fd11, F11⟩ : ∃ fd, FnP K "_law_hand" sLawHand (He.fAd K ("_law_hand", none)) fd := d.def_ 11 (d := dLawHand) rfl
  obtain ⟨fd12, F12⟩ : ∃ fd, FnP K "_law_next" sLawNext (He.fAd K ("_law_next", none)) fd := d.def_ 12 (d := dLawNext) rfl
  obtain ⟨fd13, F13⟩ : ∃ fd, FnP K "_law_take" sLawTake (He.fAd K ("_law_take", none)) fd := d.def_ 13 (d := dLawTake) rfl
  obtain ⟨fd14, F14⟩ : ∃ fd, FnP K "_law_draw" sLawDraw (He.fAd K ("_law_draw", none)) fd := d.def_ 14 (d := dLawDraw) rfl
  obtain ⟨fd15, F15⟩ : ∃ fd, FnP K "_law_names" sLawNames (He.fAd K ("_law_names", none)) fd := d.def_ 15 (d := dLawNames) rfl
  obtain ⟨fd16, F16⟩ : ∃ fd, FnP K "_law_rule" sLawRule (He.fAd K ("_law_rule", none)) fd := d.def_ 16 (d := dLawRule) rfl
  obtain ⟨fd17, F17⟩ : ∃ fd, FnP K "_law_holds" sLawHolds (He.fAd K ("_law_holds", none)) fd := d.def_ 17 (d := dLawHolds) rfl
  obtain ⟨fd18, F18⟩ : ∃ fd, FnP K "_law_names_of" sLawNamesOf (He.fAd K ("_law_names_of", none)) fd := d.def_ 18 (d := dLawNamesOf) rfl
  obtain ⟨fd19, F19⟩ : ∃ fd, FnP K "_law_all_facts" sLawAllFacts (He.fAd K ("_law_all_facts", none)) fd := d.def_ 19 (d := dLawAllFacts) rfl
  obtain ⟨fd20, F20⟩ : ∃ fd, FnP K "_law_is_clause" sLawIsClause (He.fAd K ("_law_is_clause", none)) fd := d.def_ 20 (d := dLawIsClause) rfl
  obtain ⟨fd21, F21⟩ : ∃ fd, FnP K "_law_stands" sLawStands (He.fAd K ("_law_stands", none)) fd := d.def_ 21 (d := dLawStands) rfl
  obtain ⟨fd22, F22⟩ : ∃ fd, FnP K "_law_inside" sLawInside (He.fAd K ("_law_inside", none)) fd := d.def_ 22 (d := dLawInside) rfl
  obtain ⟨fd, F⟩ : ∃ fd, FnP K "law" sLaw (He.fAd K ("law", none)) fd := d.def_ 23 (d := dLaw) rfl
  have e := hfa.symm.trans (He.glo_ok X G (d.fact 23 (f := .glo "law") rfl))
  cases e
  have m0 := He.glo_ok X G (d.fact 0 (f := .glo "all_names_in") rfl)
  have m1 := He.glo_ok X G (d.fact 1 (f := .glo "names_of") rfl)
  have m2 := He.glo_ok X G (d.fact 2 (f := .glo "clauses_in_order") rfl)
  have m3 := He.glo_ok X G (d.fact 3 (f := .glo "is_clause_part") rfl)
  have m4 := He.glo_ok X G (d.fact 4 (f := .glo "holds_under") rfl)
  have m5 := He.glo_ok X G (d.fact 5 (f := .glo "holds") rfl)
  have m6 := He.glo_ok X G (d.fact 6 (f := .glo "all_facts") rfl)
  have m7 := He.glo_ok X G (d.fact 7 (f := .glo "rows_under") rfl)
  have m8 := He.glo_ok X G (d.fact 8 (f := .glo "stands_in") rfl)
  have m9 := He.glo_ok X G (d.fact 9 (f := .glo "clauses_over") rfl)
  have m10 := He.glo_ok X G (d.fact 10 (f := .glo "shortest_of") rfl)
  have m11 := He.glo_ok X G (d.fact 11 (f := .glo "_law_hand") rfl)
  have m12 := He.glo_ok X G (d.fact 12 (f := .glo "_law_next") rfl)
  have m13 := He.glo_ok X G (d.fact 13 (f := .glo "_law_take") rfl)
  have m14 := He.glo_ok X G (d.fact 14 (f := .glo "_law_draw") rfl)
  have m15 := He.glo_ok X G (d.fact 15 (f := .glo "_law_names") rfl)
  have m16 := He.glo_ok X G (d.fact 16 (f := .glo "_law_rule") rfl)
  have m17 := He.glo_ok X G (d.fact 17 (f := .glo "_law_holds") rfl)
  have m18 := He.glo_ok X G (d.fact 18 (f := .glo "_law_names_of") rfl)
  have m19 := He.glo_ok X G (d.fact 19 (f := .glo "_law_all_facts") rfl)
  have m20 := He.glo_ok X G (d.fact 20 (f := .glo "_law_is_clause") rfl)
  have m21 := He.glo_ok X G (d.fact 21 (f := .glo "_law_stands") rfl)
  have m22 := He.glo_ok X G (d.fact 22 (f := .glo "_law_inside") rfl)
  have B : Blt mg := ⟨He.free_ok X G (d.fact 24 (f := .free "len") rfl), He.free_ok X G (d.fact 25 (f := .free "abs") rfl), He.free_ok X G (d.fact 26 (f := .free "sorted") rfl), He.free_ok X G (d.fact 27 (f := .free "range") rfl), He.free_ok X G (d.fact 28 (f := .free "isinstance") rfl), He.free_ok X G (d.fact 29 (f := .free "tuple") rfl),
    He.free_ok X G (d.fact 30 (f := .free "str") rfl), He.free_ok X G (d.fact 31 (f := .free "bool") rfl), He.free_ok X G (d.fact 32 (f := .free "list") rfl), He.free_ok X G (d.fact 33 (f := .free "dict") rfl), He.free_ok X G (d.fact 34 (f := .free "any") rfl), He.free_ok X G (d.fact 35 (f := .free "all") rfl)⟩
  have b := FunD.bindsA (ps := ["_law_script"]) F fun _ _ _ _ _ _ us hl => match us, hl with | [_], _ => rfl
  have mem : (("clauses_in_order" : Str), (none : Option Str)) ∈ hTf := List.mem_cons_self
  obtain ⟨oc, od, dV, kV, doc, pm, an, cdv, ct, osl, rfl, lk, hcd, _, _⟩ := id F2.ex
  obtain ⟨cc, hcc⟩ := He.codeIn_ref hcd
  subst hcc
  have ec : He.codeOf K ("clauses_in_order", none) = cc := He.codeOf_eq lk rfl
  refine ⟨fd, [He.cT K ("clauses_in_order", none)], spLaw K (tabT (He.cT K ("clauses_in_order", none)).2), fun p hp => ?_, fun p hp => ?_, fun p hp => ?_, fun s u => b s [u] rfl, fun H a ns _ _ ht hS => ⟨a, ns, rfl, hS, fun p hp => ?_, fun _ => rfl⟩, fun base KX GX TT => ?_⟩
  · rw [List.mem_singleton.mp hp]
    exact c.empty _ mem
  · rw [List.mem_singleton.mp hp]
    exact c.out _ mem
  · rw [List.mem_singleton.mp hp]
    exact PySem.W.codeHd_of_K X (c.hd _ mem)
  · rw [List.mem_singleton.mp hp]
    exact LamX.TabS.nil (ht _ List.mem_cons_self)
  have TB := TT _ List.mem_cons_self
  have C12 : Cal l.prog w K mg base 1 "_law_next" ["_law_hand_here"] spNext := cal_of F12 m12 (ok_next F12) fun _ _ _ _ _ _ us hl => match us, hl with | [_], _ => rfl
  have C13 : Cal l.prog w K mg base 2 "_law_take" ["_law_hand_here"] spTake := cal_of F13 m13 (ok_take F13 B C12) fun _ _ _ _ _ _ us hl => match us, hl with | [_], _ => rfl
  have C14 : Cal l.prog w K mg base 3 "_law_draw" ["_law_hand_here", "_law_many"] spDraw := cal_of F14 m14 (ok_draw F14 C12 C13) fun _ _ _ _ _ _ us hl => match us, hl with | [_, _], _ => rfl
  have C11 : Cal l.prog w K mg base 1 "_law_hand" ["_law_script"] (spHand K) := cal_of F11 m11 (ok_hand F11 B) fun _ _ _ _ _ _ us hl => match us, hl with | [_], _ => rfl
  have C15 : Cal l.prog w K mg base 4 "_law_names" ["_law_hand_here", "_law_many"] spNames := cal_of F15 m15 (ok_names F15 B C14) fun _ _ _ _ _ _ us hl => match us, hl with | [_, _], _ => rfl
  have C16 : Cal l.prog w K mg base 9 "_law_rule" ["_law_hand_here", "_law_names_here", "_law_deep"] (spRule 6) := cal_rule F16 m16 B C14 6
  have C17 : Cal l.prog w K mg base 6 "_law_holds" ["_law_rule_here", "_law_facts"] (spHolds 6) := cal_lholds F17 m17 6
  have C18 : Cal l.prog w K mg base 6 "_law_names_of" ["_law_rule_here"] (spLNm 6) := cal_lnm F18 m18 B 6
  have C0 : Cal l.prog w K mg base 6 "all_names_in" ["rule"] (spAll 6) := cal_all F0 m0 6
  have C1 : Cal l.prog w K mg base 7 "names_of" ["rule"] spNm := cal_of F1 m1 (ok_nm F1 B C0) fun _ _ _ _ _ _ us hl => match us, hl with | [_], _ => rfl
  have C4 : Cal l.prog w K mg base 6 "holds_under" ["rule", "facts"] (spHolds 6) := cal_under F4 m4 6
  have C5 : Cal l.prog w K mg base 8 "holds" ["rule", "facts"] spH := cal_of F5 m5 (ok_h F5 C1 C4) fun _ _ _ _ _ _ us hl => match us, hl with | [_, _], _ => rfl
  have C6 : Cal l.prog w K mg base 1 "all_facts" ["names"] spAF := cal_of F6 m6 (ok_af F6 B) fun _ _ _ _ _ _ us hl => match us, hl with | [_], _ => rfl
  have C7 : Cal l.prog w K mg base 9 "rows_under" ["rule"] spRows := cal_of F7 m7 (ok_rows F7 C1 C6 C5) fun _ _ _ _ _ _ us hl => match us, hl with | [_], _ => rfl
  have C2 : Cal l.prog w K mg base 3 "clauses_in_order" ["clauses"] (spOrder (tabT (He.cT K ("clauses_in_order", none)).2)) := cal_of F2 m2 (ok_order F2 B TB (congrArg Value.ref ec.symm)) fun _ _ _ _ _ _ us hl => match us, hl with | [_], _ => rfl
  have C9 : Cal l.prog w K mg base 4 "clauses_over" ["names"] (spOver (tabT (He.cT K ("clauses_in_order", none)).2)) := cal_of F9 m9 (ok_over F9 B C2) fun _ _ _ _ _ _ us hl => match us, hl with | [_], _ => rfl
  have C3 : Cal l.prog w K mg base 1 "is_clause_part" ["one", "other"] spPart := cal_of F3 m3 (ok_part F3 B) fun _ _ _ _ _ _ us hl => match us, hl with | [_, _], _ => rfl
  have C8 : Cal l.prog w K mg base 1 "stands_in" ["rows", "clause"] spStands := cal_of F8 m8 (ok_stands F8 B) fun _ _ _ _ _ _ us hl => match us, hl with | [_, _], _ => rfl
  have C10 : Cal l.prog w K mg base 10 "shortest_of" ["rule"] (spShort (tabT (He.cT K ("clauses_in_order", none)).2)) := cal_of F10 m10 (ok_short F10 B C7 C1 C9 C3 C8) fun _ _ _ _ _ _ us hl => match us, hl with | [_], _ => rfl
  have C19 : Cal l.prog w K mg base 1 "_law_all_facts" ["_law_names_here"] spAF := cal_of F19 m19 (ok_laf F19 B) fun _ _ _ _ _ _ us hl => match us, hl with | [_], _ => rfl
  have C20 : Cal l.prog w K mg base 1 "_law_is_clause" ["_law_thing"] spLIs := cal_of F20 m20 (ok_lis F20 B) fun _ _ _ _ _ _ us hl => match us, hl with | [_], _ => rfl
  have C21 : Cal l.prog w K mg base 1 "_law_stands" ["_law_clause", "_law_facts"] spLStands := cal_of F21 m21 (ok_lstands F21) fun _ _ _ _ _ _ us hl => match us, hl with | [_, _], _ => rfl
  have C22 : Cal l.prog w K mg base 1 "_law_inside" ["_law_one", "_law_other"] spLInside := cal_of F22 m22 (ok_linside F22) fun _ _ _ _ _ _ us hl => match us, hl with | [_, _], _ => rfl
  exact ok_law F B C11 C14 C15 C16 C18 C10 C20 C22 C19 C21 C17
end K27
end
set_option maxHeartbeats 0
open PySem PySem.W PySem.Calls PyProof.Rows
theorem PySem.Challenge.cw_truceroll_k27_whole_rule_is_its_clauses_holds : PySem.Challenge.rw_truceroll_k27_whole_rule_is_its_clauses.Holds := by
  w_on; o_law
  refine HandSHeadRun.head_any (r := OpenLaw.row PySem.Challenge.rw_truceroll_k27_whole_rule_is_its_clauses) (q := view (OpenLaw.row PySem.Challenge.rw_truceroll_k27_whole_rule_is_its_clauses).prog [31]) (H := K27.hK) (ob := K27.hOb) (M := 4000) (loose := K27.hLoose) (d := HandSHeadRun.topDef (OpenLaw.row PySem.Challenge.rw_truceroll_k27_whole_rule_is_its_clauses).prog 31) (kwd := []) K27.hOb_eq
    (by kernel_rfl) (fun s => by kernel_rfl) K27.hRun (by kernel_rfl) (by kernel_rfl) (by kernel_rfl) (by rfl) (by first | assumption | decide +kernel) (by decide +kernel) ⟨rfl, rfl, rfl, rfl, rfl, by decide +kernel⟩ ?hw ?hc
  case hw => w_witness2
  case hc =>
    refine LamX.walk_ofTsE (l := PySem.Challenge.rw_truceroll_k27_whole_rule_is_its_clauses) (n := 63) (k := 11) (x := "_law_script") (CX := fun _ => L2.CX0) rfl (by decide) (by kernel_rfl) ⟨rfl, by decide, by decide⟩ ?F (fun _ _ _ _ _ z => z)
    intro w mg fa h Y G hmg0
    obtain ⟨K, KX, c⟩ := Y
    have hmg : mg ("law" : PySem.Str) = some (.ref fa) := by
      have e : (HandSHeadRun.topDef (OpenLaw.row PySem.Challenge.rw_truceroll_k27_whole_rule_is_its_clauses).prog 31).name = ("law" : PySem.Str) := by kernel_rfl
      rw [← e]
      exact hmg0
    exact ⟨K, KX, K27.facts PySem.Challenge.rw_truceroll_k27_whole_rule_is_its_clauses rfl KX G hmg c⟩
