import PyProof.Rows.All
import Wide.All
import OpenK.AllK
import Wide.FinOn
import HandS.ForMost
import HandS.Walk
import HandS.Rev
import HandS.Style
import HandS.Strs
import HandS.Conv
import HandS.TupAny
import HandS.Evl
import PySem.Challenge.RW_archway_k45_whole_walks
set_option Elab.async false
set_option linter.all false
set_option maxRecDepth 100000
set_option maxHeartbeats 4000000

/-! The plain law of the walk: parts, their layout, their meaning, and point 43. No program in sight. -/
namespace Arc

inductive LK where
  | set | letter | call | ret
  deriving DecidableEq
inductive UK where
  | not | all | first | last
  deriving DecidableEq
inductive BK where
  | and | next | arch | both
  deriving DecidableEq
inductive Part where
  | leaf (k : LK) (i : Nat)
  | un (k : UK) (p : Part)
  | bi (k : BK) (p q : Part)
inductive Line where
  | leaf (k : LK) (i : Nat)
  | un (k : UK) (m : Nat)
  | bi (k : BK) (m n : Nat)

def Part.size : Part → Nat
  | .leaf _ _ => 1
  | .un _ p => p.size + 1
  | .bi _ p q => p.size + q.size + 1
def Part.dep : Part → Nat
  | .leaf _ _ => 0
  | .un _ p => p.dep + 1
  | .bi _ p q => max p.dep q.dep + 1
theorem size_pos : ∀ p : Part, 1 ≤ p.size
  | .leaf _ _ => Nat.le_refl 1
  | .un _ p => Nat.succ_le_succ (Nat.zero_le _)
  | .bi _ p q => Nat.succ_le_succ (Nat.zero_le _)

/-! ### the layout -/
def lay : Part → Nat → List Line
  | .leaf k i, _ => [.leaf k i]
  | .un k p, o => lay p o ++ [.un k (o + p.size - 1)]
  | .bi k p q, o => lay p o ++ (lay q (o + p.size) ++ [.bi k (o + p.size - 1) (o + p.size + q.size - 1)])
theorem lay_length : ∀ (p : Part) (o : Nat), (lay p o).length = p.size
  | .leaf _ _, _ => rfl
  | .un _ p, o => by
    show (lay p o ++ [_]).length = p.size + 1
    rw [List.length_append, lay_length p o]
    rfl
  | .bi _ p q, o => by
    show (lay p o ++ (lay q (o + p.size) ++ [_])).length = p.size + q.size + 1
    rw [List.length_append, List.length_append, lay_length p o, lay_length q]
    show p.size + (q.size + 1) = p.size + q.size + 1
    omega
/-- line n of L is the part p -/
def At (L : List Line) : Nat → Part → Prop
  | n, .leaf k i => L[n]? = some (.leaf k i)
  | n, .un k p => ∃ m, L[n]? = some (.un k m) ∧ At L m p
  | n, .bi k p q => ∃ m m', L[n]? = some (.bi k m m') ∧ At L m p ∧ At L m' q
theorem at_lay : ∀ (p : Part) (A B : List Line), At (A ++ (lay p A.length ++ B)) (A.length + p.size - 1) p
  | .leaf k i, A, B => by
    show (A ++ ([Line.leaf k i] ++ B))[A.length + 1 - 1]? = _
    rw [Nat.add_sub_cancel, List.getElem?_append_right (Nat.le_refl _), Nat.sub_self]
    rfl
  | .un k p, A, B => by
    have h := at_lay p A ([.un k (A.length + p.size - 1)] ++ B)
    refine ⟨A.length + p.size - 1, ?_, ?_⟩
    · show (A ++ ((lay p A.length ++ [Line.un k (A.length + p.size - 1)]) ++ B))[A.length + (p.size + 1) - 1]? = _
      rw [List.getElem?_append_right (by omega), List.append_assoc, List.getElem?_append_right (by rw [lay_length]; omega), lay_length]
      rw [show A.length + (p.size + 1) - 1 - A.length - p.size = 0 by omega]
      rfl
    · show At (A ++ ((lay p A.length ++ [Line.un k (A.length + p.size - 1)]) ++ B)) _ p
      rw [List.append_assoc]
      exact h
  | .bi k p q, A, B => by
    have h1 := at_lay p A (lay q (A.length + p.size) ++ [Line.bi k (A.length + p.size - 1) (A.length + p.size + q.size - 1)] ++ B)
    have h2 := at_lay q (A ++ lay p A.length) ([Line.bi k (A.length + p.size - 1) (A.length + p.size + q.size - 1)] ++ B)
    have hl : (A ++ lay p A.length).length = A.length + p.size := by rw [List.length_append, lay_length]
    rw [hl] at h2
    refine ⟨A.length + p.size - 1, A.length + p.size + q.size - 1, ?_, ?_, ?_⟩
    · show (A ++ ((lay p A.length ++ (lay q (A.length + p.size) ++ [Line.bi k (A.length + p.size - 1) (A.length + p.size + q.size - 1)])) ++ B))[A.length + (p.size + q.size + 1) - 1]? = _
      rw [List.getElem?_append_right (by omega), List.append_assoc, List.getElem?_append_right (by rw [lay_length]; omega), lay_length, List.append_assoc,
        List.getElem?_append_right (by rw [lay_length]; omega), lay_length]
      rw [show A.length + (p.size + q.size + 1) - 1 - A.length - p.size - q.size = 0 by omega]
      rfl
    · show At (A ++ ((lay p A.length ++ (lay q (A.length + p.size) ++ [Line.bi k (A.length + p.size - 1) (A.length + p.size + q.size - 1)])) ++ B)) _ p
      rw [List.append_assoc]
      exact h1
    · show At (A ++ ((lay p A.length ++ (lay q (A.length + p.size) ++ [Line.bi k (A.length + p.size - 1) (A.length + p.size + q.size - 1)])) ++ B)) _ q
      rw [List.append_assoc, List.append_assoc]
      rw [List.append_assoc] at h2
      exact h2

/-! ### the laying machine -/
/-- how many parts it has -/
def Part.cnt : Part → Nat
  | .leaf _ _ => 0
  | .un _ _ => 1
  | .bi _ _ _ => 2
/-- its line over the numbers of its parts -/
def mkL : Part → List Nat → Line
  | .leaf k i, _ => .leaf k i
  | .un k _, ns => .un k (ns.getD 0 0)
  | .bi k _ _, ns => .bi k (ns.getD 0 0) (ns.getD 1 0)
abbrev MS := List Nat × List Line
def stp (it : Part × Bool) (x : MS) : MS :=
  match it with
  | (p, false) => (x.1 ++ [x.2.length + p.size - 1], x.2 ++ lay p x.2.length)
  | (p, true) => (x.1.take (x.1.length - p.cnt) ++ [x.2.length], x.2 ++ [mkL p (x.1.drop (x.1.length - p.cnt))])
def fin : List (Part × Bool) → MS → MS
  | [], x => x
  | it :: W, x => fin W (stp it x)
theorem stp_leaf (k : LK) (i : Nat) (x : MS) : stp (.leaf k i, false) x = (x.1 ++ [x.2.length], x.2 ++ [.leaf k i]) := rfl
theorem stp_un (k : UK) (p : Part) (x : MS) : stp (.un k p, true) (stp (p, false) x) = stp (.un k p, false) x := by
  obtain ⟨N, R⟩ := x
  show (((N ++ [R.length + p.size - 1]).take ((N ++ [R.length + p.size - 1]).length - 1) ++ [(R ++ lay p R.length).length], (R ++ lay p R.length) ++ [Line.un k (((N ++ [R.length + p.size - 1]).drop ((N ++ [R.length + p.size - 1]).length - 1)).getD 0 0)]) : MS)
    = (N ++ [R.length + (p.size + 1) - 1], R ++ (lay p R.length ++ [Line.un k (R.length + p.size - 1)]))
  have e1 : (N ++ [R.length + p.size - 1]).length - 1 = N.length := by rw [List.length_append]; rfl
  rw [e1, List.take_left, List.drop_left, List.length_append, lay_length, List.append_assoc]
  rfl
theorem stp_bi (k : BK) (p q : Part) (x : MS) : stp (.bi k p q, true) (stp (q, false) (stp (p, false) x)) = stp (.bi k p q, false) x := by
  obtain ⟨N, R⟩ := x
  have hq := size_pos q
  have hp := size_pos p
  have eL : (R ++ lay p R.length).length = R.length + p.size := by rw [List.length_append, lay_length]
  show ((((N ++ [R.length + p.size - 1]) ++ [(R ++ lay p R.length).length + q.size - 1]).take (((N ++ [R.length + p.size - 1]) ++ [(R ++ lay p R.length).length + q.size - 1]).length - 2) ++ [((R ++ lay p R.length) ++ lay q (R ++ lay p R.length).length).length],
    ((R ++ lay p R.length) ++ lay q (R ++ lay p R.length).length) ++ [Line.bi k ((((N ++ [R.length + p.size - 1]) ++ [(R ++ lay p R.length).length + q.size - 1]).drop (((N ++ [R.length + p.size - 1]) ++ [(R ++ lay p R.length).length + q.size - 1]).length - 2)).getD 0 0)
      ((((N ++ [R.length + p.size - 1]) ++ [(R ++ lay p R.length).length + q.size - 1]).drop (((N ++ [R.length + p.size - 1]) ++ [(R ++ lay p R.length).length + q.size - 1]).length - 2)).getD 1 0)]) : MS)
    = (N ++ [R.length + (p.size + q.size + 1) - 1], R ++ (lay p R.length ++ (lay q (R.length + p.size) ++ [Line.bi k (R.length + p.size - 1) (R.length + p.size + q.size - 1)])))
  rw [eL, List.append_assoc N]
  have e1 : (N ++ ([R.length + p.size - 1] ++ [R.length + p.size + q.size - 1])).length - 2 = N.length := by rw [List.length_append]; rfl
  rw [e1, List.take_left, List.drop_left, List.length_append, eL, lay_length]
  have e2 : R.length + p.size + q.size = R.length + (p.size + q.size + 1) - 1 := by omega
  rw [e2]
  simp [List.append_assoc]
/-- what the stack still asks of the numbers -/
def okW : List (Part × Bool) → Nat → Prop
  | [], _ => True
  | (_, false) :: W, n => okW W (n + 1)
  | (p, true) :: W, n => p.cnt ≤ n ∧ okW W (n - p.cnt + 1)
def ms (it : Part × Bool) : Nat := match it with
  | (p, false) => 2 * p.size
  | (_, true) => 1
def msW : List (Part × Bool) → Nat
  | [] => 0
  | it :: W => ms it + msW W
/-- lines that are still to come -/
def rem1 (it : Part × Bool) : Nat := match it with
  | (p, false) => p.size
  | (_, true) => 1
def remW : List (Part × Bool) → Nat
  | [] => 0
  | it :: W => rem1 it + remW W
theorem ms_pos (it : Part × Bool) : 1 ≤ ms it := by
  obtain ⟨p, b⟩ := it
  cases b
  · have := size_pos p
    show 1 ≤ 2 * p.size
    omega
  · exact Nat.le_refl 1
theorem len_msW : ∀ W : List (Part × Bool), W.length ≤ msW W
  | [] => Nat.le_refl 0
  | it :: W => by
    have := len_msW W
    have := ms_pos it
    show W.length + 1 ≤ ms it + msW W
    omega
theorem msW_rem : ∀ W : List (Part × Bool), msW W ≤ 2 * remW W
  | [] => Nat.le_refl 0
  | (p, false) :: W => by
    have := msW_rem W
    show 2 * p.size + msW W ≤ 2 * (p.size + remW W)
    omega
  | (p, true) :: W => by
    have := msW_rem W
    show 1 + msW W ≤ 2 * (1 + remW W)
    omega

/-! ### the reader and its walk -/
structure Rdr where
  l : Nat
  c : Nat
  r : Nat
  n : Nat
  letters : Nat → Nat
  mul : Nat → Nat → Nat
  wrap : Nat → Nat → Nat → Nat
  acc : List Nat
structure Rdr.Ok (R : Rdr) : Prop where
  l2 : R.l ≤ 2
  c2 : R.c ≤ 2
  r2 : R.r ≤ 2
  n1 : 1 ≤ R.n
  n3 : R.n ≤ 3
  letters : ∀ a, a < R.l → R.letters a < R.n
  mul : ∀ x y, x < R.n → y < R.n → R.mul x y < R.n
  wrap : ∀ a b x, a < R.c → b < R.r → x < R.n → R.wrap a b x < R.n
  acc : ∀ v, v ∈ R.acc → v < R.n
  acc3 : R.acc.length ≤ 3

def setP (i : Nat) : Part := .leaf .set i
def notP (p : Part) : Part := .un .not p
def andP (p q : Part) : Part := .bi .and p q
def yesP : Part := notP (andP (setP 0) (notP (setP 0)))
def everyP : List Part → Part
  | [] => yesP
  | p :: ps => andP p (everyP ps)
def someP : List Part → Part
  | [] => notP yesP
  | p :: ps => notP (andP (notP p) (notP (someP ps)))
def ifP (p q : Part) : Part := notP (andP p (notP q))
def behL1 (R : Rdr) (u : Nat) (a : Nat) : Part := ifP (.leaf .letter a) (setP (R.mul u (R.letters a)))
def behL2 (R : Rdr) (u : Nat) (a : Nat) : Part := ifP (.leaf .call a) (setP u)
def behL3 (R : Rdr) (u : Nat) (b : Nat) : Part := ifP (.leaf .ret b) (setP (R.n + u))
def behL (R : Rdr) (u : Nat) : List Part :=
  (List.range R.l).map (behL1 R u) ++ (List.range R.c).map (behL2 R u) ++ (List.range R.r).map (behL3 R u)
def behindP (R : Rdr) (u : Nat) : Part := everyP (behL R u)
def apartP (v w : Nat) : Part := if v = w then yesP else ifP (setP v) (notP (setP w))
def apartL (R : Rdr) : List Part := (List.range R.n).flatMap fun v => (List.range R.n).map fun w => apartP v w
def arch1 (R : Rdr) (u a b i : Nat) : Part := ifP (andP (.leaf .ret b) (setP (R.n + i))) (setP (R.mul u (R.wrap a b i)))
def archL (R : Rdr) (u a : Nat) : List Part := (List.range R.r).flatMap fun b => (List.range R.n).map fun i => arch1 R u a b i
def archP (R : Rdr) (u a : Nat) : Part := .bi .arch (andP (.leaf .call a) (setP u)) (everyP (archL R u a))
def callP (R : Rdr) : Part := someP ((List.range R.c).map fun a => .leaf .call a)
def nextP (R : Rdr) (u : Nat) : Part := .bi .next (andP (notP (callP R)) (setP u)) (behindP R u)
def walkHead (R : Rdr) : List Part :=
  [.un .all (everyP (apartL R)), .un .first (behindP R 0), .bi .next (callP R) (behindP R 0), .un .last (someP (R.acc.map setP))]
def walkL (R : Rdr) : List Part :=
  walkHead R ++ (List.range R.n).map (nextP R) ++ (List.range R.n).flatMap fun u => (List.range R.c).map fun a => archP R u a
def bothP : List Part → Part
  | [] => .un .all yesP
  | p :: ps => .bi .both p (bothP ps)
def walkP (R : Rdr) : Part := bothP (walkL R)

/-! ### kinds -/
def PlOk : Part → Prop
  | .leaf _ _ => True
  | .un .not p => PlOk p
  | .bi .and p q => PlOk p ∧ PlOk q
  | _ => False
def SoOk : Part → Prop
  | .bi .both p q => SoOk p ∧ SoOk q
  | .un .all p => PlOk p
  | .un .first p => PlOk p
  | .un .last p => PlOk p
  | .bi .next p q => PlOk p ∧ PlOk q
  | .bi .arch p q => PlOk p ∧ PlOk q
  | _ => False
theorem pl_yes : PlOk yesP := ⟨trivial, trivial⟩
theorem pl_if {p q : Part} (h : PlOk p) (h' : PlOk q) : PlOk (ifP p q) := ⟨h, h'⟩
theorem pl_every : ∀ {ps : List Part}, (∀ p ∈ ps, PlOk p) → PlOk (everyP ps)
  | [], _ => pl_yes
  | p :: ps, h => ⟨h p List.mem_cons_self, pl_every fun q hq => h q (List.mem_cons_of_mem _ hq)⟩
theorem pl_some : ∀ {ps : List Part}, (∀ p ∈ ps, PlOk p) → PlOk (someP ps)
  | [], _ => pl_yes
  | p :: ps, h => ⟨h p List.mem_cons_self, pl_some fun q hq => h q (List.mem_cons_of_mem _ hq)⟩
theorem mem_behL {R : Rdr} {u : Nat} {p : Part} : p ∈ behL R u ↔ (∃ a, a < R.l ∧ p = behL1 R u a) ∨ (∃ a, a < R.c ∧ p = behL2 R u a) ∨ (∃ b, b < R.r ∧ p = behL3 R u b) := by
  unfold behL
  rw [List.mem_append, List.mem_append, List.mem_map, List.mem_map, List.mem_map, or_assoc]
  simp only [List.mem_range]
  constructor
  · rintro (⟨a, h, rfl⟩ | ⟨a, h, rfl⟩ | ⟨a, h, rfl⟩)
    · exact .inl ⟨a, h, rfl⟩
    · exact .inr (.inl ⟨a, h, rfl⟩)
    · exact .inr (.inr ⟨a, h, rfl⟩)
  · rintro (⟨a, h, rfl⟩ | ⟨a, h, rfl⟩ | ⟨a, h, rfl⟩)
    · exact .inl ⟨a, h, rfl⟩
    · exact .inr (.inl ⟨a, h, rfl⟩)
    · exact .inr (.inr ⟨a, h, rfl⟩)
theorem mem_apartL {R : Rdr} {p : Part} : p ∈ apartL R ↔ ∃ v w, v < R.n ∧ w < R.n ∧ p = apartP v w := by
  unfold apartL
  rw [List.mem_flatMap]
  simp only [List.mem_map, List.mem_range]
  constructor
  · rintro ⟨v, hv, w, hw, rfl⟩
    exact ⟨v, w, hv, hw, rfl⟩
  · rintro ⟨v, w, hv, hw, rfl⟩
    exact ⟨v, hv, w, hw, rfl⟩
theorem mem_archL {R : Rdr} {u a : Nat} {p : Part} : p ∈ archL R u a ↔ ∃ b i, b < R.r ∧ i < R.n ∧ p = arch1 R u a b i := by
  unfold archL
  rw [List.mem_flatMap]
  simp only [List.mem_map, List.mem_range]
  constructor
  · rintro ⟨v, hv, w, hw, rfl⟩
    exact ⟨v, w, hv, hw, rfl⟩
  · rintro ⟨v, w, hv, hw, rfl⟩
    exact ⟨v, hv, w, hw, rfl⟩
theorem mem_walkL {R : Rdr} {p : Part} : p ∈ walkL R ↔ p ∈ walkHead R ∨ (∃ u, u < R.n ∧ p = nextP R u) ∨ (∃ u a, u < R.n ∧ a < R.c ∧ p = archP R u a) := by
  unfold walkL
  rw [List.mem_append, List.mem_append, or_assoc, List.mem_flatMap]
  simp only [List.mem_map, List.mem_range]
  constructor
  · rintro (h | ⟨u, h, rfl⟩ | ⟨u, hu, a, ha, rfl⟩)
    · exact .inl h
    · exact .inr (.inl ⟨u, h, rfl⟩)
    · exact .inr (.inr ⟨u, a, hu, ha, rfl⟩)
  · rintro (h | ⟨u, h, rfl⟩ | ⟨u, a, hu, ha, rfl⟩)
    · exact .inl h
    · exact .inr (.inl ⟨u, h, rfl⟩)
    · exact .inr (.inr ⟨u, hu, a, ha, rfl⟩)
theorem pl_behind (R : Rdr) (u : Nat) : PlOk (behindP R u) := pl_every fun p hp => by
  rcases mem_behL.mp hp with ⟨a, _, rfl⟩ | ⟨a, _, rfl⟩ | ⟨a, _, rfl⟩ <;> exact ⟨trivial, trivial⟩
theorem pl_call (R : Rdr) : PlOk (callP R) := pl_some fun p hp => by
  obtain ⟨a, _, rfl⟩ := List.mem_map.mp hp
  trivial
theorem so_both : ∀ {ps : List Part}, (∀ p ∈ ps, SoOk p) → SoOk (bothP ps)
  | [], _ => pl_yes
  | p :: ps, h => ⟨h p List.mem_cons_self, so_both fun q hq => h q (List.mem_cons_of_mem _ hq)⟩
theorem so_walk (R : Rdr) : SoOk (walkP R) := so_both fun p hp => by
  rcases mem_walkL.mp hp with h | ⟨u, _, rfl⟩ | ⟨u, a, _, _, rfl⟩
  · rcases List.mem_cons.mp h with rfl | h
    · refine pl_every fun p hp => ?_
      obtain ⟨v, w, _, _, rfl⟩ := mem_apartL.mp hp
      unfold apartP
      split
      · exact pl_yes
      · exact ⟨trivial, trivial⟩
    rcases List.mem_cons.mp h with rfl | h
    · exact pl_behind R 0
    rcases List.mem_cons.mp h with rfl | h
    · exact ⟨pl_call R, pl_behind R 0⟩
    rcases List.mem_cons.mp h with rfl | h
    · refine pl_some fun p hp => ?_
      obtain ⟨v, _, rfl⟩ := List.mem_map.mp hp
      trivial
    · cases h
  · exact ⟨⟨pl_call R, trivial⟩, pl_behind R u⟩
  · refine ⟨⟨trivial, trivial⟩, pl_every fun p hp => ?_⟩
    obtain ⟨b, i, _, _, rfl⟩ := mem_archL.mp hp
    exact ⟨⟨trivial, trivial⟩, trivial⟩

/-! ### bounds -/
/-- no larger, no deeper -/
def Bd (s d : Nat) (p : Part) : Prop := p.size ≤ s ∧ p.dep ≤ d
theorem bd_every {s d : Nat} (hd : 3 ≤ d) : ∀ {ps : List Part} {n : Nat}, ps.length ≤ n → (∀ p ∈ ps, Bd s d p) → Bd (n * (s + 1) + 5) (d + n) (everyP ps)
  | [], n, _, _ => ⟨by show 5 ≤ _; omega, by show 3 ≤ _; omega⟩
  | p :: ps, 0, hn, _ => absurd hn (Nat.not_succ_le_zero _)
  | p :: ps, n + 1, hn, h => by
    obtain ⟨h1, h2⟩ := bd_every hd (Nat.le_of_succ_le_succ hn) fun q hq => h q (List.mem_cons_of_mem _ hq)
    obtain ⟨h3, h4⟩ := h p List.mem_cons_self
    refine ⟨?_, ?_⟩
    · show p.size + (everyP ps).size + 1 ≤ (n + 1) * (s + 1) + 5
      rw [Nat.succ_mul]
      omega
    · show max p.dep (everyP ps).dep + 1 ≤ d + (n + 1)
      omega
theorem bd_some : ∀ {ps : List Part} {n : Nat}, ps.length ≤ n → (∀ p ∈ ps, Bd 1 0 p) → Bd (n * 5 + 6) (n * 3 + 4) (someP ps)
  | [], n, _, _ => ⟨by show 6 ≤ _; omega, by show 4 ≤ _; omega⟩
  | p :: ps, 0, hn, _ => absurd hn (Nat.not_succ_le_zero _)
  | p :: ps, n + 1, hn, h => by
    obtain ⟨h1, h2⟩ := bd_some (Nat.le_of_succ_le_succ hn) fun q hq => h q (List.mem_cons_of_mem _ hq)
    obtain ⟨h3, h4⟩ := h p List.mem_cons_self
    refine ⟨?_, ?_⟩
    · show (p.size + 1) + ((someP ps).size + 1) + 1 + 1 ≤ (n + 1) * 5 + 6
      omega
    · show max (p.dep + 1) ((someP ps).dep + 1) + 1 + 1 ≤ (n + 1) * 3 + 4
      omega
theorem bd_both {s d : Nat} (hd : 4 ≤ d) : ∀ {ps : List Part} {n : Nat}, ps.length ≤ n → (∀ p ∈ ps, Bd s d p) → Bd (n * (s + 1) + 6) (d + n) (bothP ps)
  | [], n, _, _ => ⟨by show 6 ≤ _; omega, by show 4 ≤ _; omega⟩
  | p :: ps, 0, hn, _ => absurd hn (Nat.not_succ_le_zero _)
  | p :: ps, n + 1, hn, h => by
    obtain ⟨h1, h2⟩ := bd_both hd (Nat.le_of_succ_le_succ hn) fun q hq => h q (List.mem_cons_of_mem _ hq)
    obtain ⟨h3, h4⟩ := h p List.mem_cons_self
    refine ⟨?_, ?_⟩
    · show p.size + (bothP ps).size + 1 ≤ (n + 1) * (s + 1) + 6
      rw [Nat.succ_mul]
      omega
    · show max p.dep (bothP ps).dep + 1 ≤ d + (n + 1)
      omega
theorem len_flat (n m : Nat) (f : Nat → Nat → Part) : ((List.range n).flatMap fun v => (List.range m).map fun w => f v w).length = n * m := by
  rw [List.length_flatMap]
  have e : (fun v => ((List.range m).map fun w => f v w).length) = fun _ => m := by
    funext v
    rw [List.length_map, List.length_range]
  rw [e]
  induction n with
  | zero => simp
  | succ n ih => rw [List.range_succ, List.map_append, List.sum_append, ih, Nat.succ_mul]; simp
theorem mul_le {a b x y : Nat} (h : a ≤ x) (h' : b ≤ y) : a * b ≤ x * y := Nat.mul_le_mul h h'
section
variable {R : Rdr}
theorem bd_behind (O : R.Ok) (u : Nat) : Bd 41 9 (behindP R u) := by
  have := O.l2; have := O.c2; have := O.r2
  have h := bd_every (s := 5) (d := 3) (Nat.le_refl 3) (ps := behL R u) (n := 6) (by unfold behL; simp only [List.length_append, List.length_map, List.length_range]; omega) fun p hp => by
    rcases mem_behL.mp hp with ⟨a, _, rfl⟩ | ⟨a, _, rfl⟩ | ⟨a, _, rfl⟩ <;> exact ⟨Nat.le_refl 5, Nat.le_refl 3⟩
  exact h
theorem bd_call (O : R.Ok) : Bd 16 10 (callP R) := by
  have := O.c2
  refine bd_some (n := 2) (by rw [List.length_map, List.length_range]; exact O.c2) fun p hp => ?_
  obtain ⟨a, _, rfl⟩ := List.mem_map.mp hp
  exact ⟨Nat.le_refl 1, Nat.le_refl 0⟩
theorem bd_arch (O : R.Ok) (u a : Nat) : Bd 60 13 (archP R u a) := by
  have h := bd_every (s := 7) (d := 4) (by omega) (ps := archL R u a) (n := 6) (by unfold archL; rw [len_flat]; exact mul_le O.r2 O.n3) fun p hp => by
    obtain ⟨b, i, _, _, rfl⟩ := mem_archL.mp hp
    exact ⟨Nat.le_refl 7, by show 3 ≤ 4; omega⟩
  obtain ⟨h1, h2⟩ := h
  refine ⟨?_, ?_⟩
  · show 3 + (everyP (archL R u a)).size + 1 ≤ 60
    omega
  · show max 1 (everyP (archL R u a)).dep + 1 ≤ 13
    omega
theorem bd_next (O : R.Ok) (u : Nat) : Bd 70 13 (nextP R u) := by
  obtain ⟨h1, h2⟩ := bd_behind O u
  obtain ⟨h3, h4⟩ := bd_call O
  refine ⟨?_, ?_⟩
  · show ((callP R).size + 1 + 1 + 1) + (behindP R u).size + 1 ≤ 70
    omega
  · show max (max ((callP R).dep + 1) 0 + 1) (behindP R u).dep + 1 ≤ 13
    omega
theorem bd_walk (O : R.Ok) : Bd 1000 40 (walkP R) := by
  have hn := O.n3
  have hc := O.c2
  have hl : (walkL R).length ≤ 13 := by
    unfold walkL walkHead
    rw [List.length_append, List.length_append, List.length_map, List.length_range, len_flat]
    have := mul_le hn hc
    simp only [List.length_cons, List.length_nil]
    omega
  have h := bd_both (s := 70) (d := 14) (by omega) hl fun p hp => by
    rcases mem_walkL.mp hp with h | ⟨u, _, rfl⟩ | ⟨u, a, _, _, rfl⟩
    · rcases List.mem_cons.mp h with rfl | h
      · have h := bd_every (s := 6) (d := 4) (by omega) (ps := apartL R) (n := 9) (by unfold apartL; rw [len_flat]; exact mul_le hn hn) fun p hp => by
          obtain ⟨v, w, _, _, rfl⟩ := mem_apartL.mp hp
          unfold apartP
          split
          · exact ⟨by show 5 ≤ 6; omega, by show 3 ≤ 4; omega⟩
          · exact ⟨Nat.le_refl _, Nat.le_refl _⟩
        obtain ⟨h1, h2⟩ := h
        refine ⟨?_, ?_⟩
        · show (everyP (apartL R)).size + 1 ≤ 70
          omega
        · show (everyP (apartL R)).dep + 1 ≤ 14
          omega
      rcases List.mem_cons.mp h with rfl | h
      · obtain ⟨h1, h2⟩ := bd_behind O 0
        refine ⟨?_, ?_⟩
        · show (behindP R 0).size + 1 ≤ 70
          omega
        · show (behindP R 0).dep + 1 ≤ 14
          omega
      rcases List.mem_cons.mp h with rfl | h
      · obtain ⟨h1, h2⟩ := bd_behind O 0
        obtain ⟨h3, h4⟩ := bd_call O
        refine ⟨?_, ?_⟩
        · show (callP R).size + (behindP R 0).size + 1 ≤ 70
          omega
        · show max (callP R).dep (behindP R 0).dep + 1 ≤ 14
          omega
      rcases List.mem_cons.mp h with rfl | h
      · have h := bd_some (ps := R.acc.map setP) (n := 3) (by rw [List.length_map]; exact O.acc3) fun p hp => by
          obtain ⟨a, _, rfl⟩ := List.mem_map.mp hp
          exact ⟨Nat.le_refl 1, Nat.le_refl 0⟩
        obtain ⟨h1, h2⟩ := h
        refine ⟨?_, ?_⟩
        · show (someP (R.acc.map setP)).size + 1 ≤ 70
          omega
        · show (someP (R.acc.map setP)).dep + 1 ≤ 14
          omega
      · cases h
    · obtain ⟨h1, h2⟩ := bd_next O u
      exact ⟨h1, by omega⟩
    · obtain ⟨h1, h2⟩ := bd_arch O u a
      exact ⟨by omega, by omega⟩
  obtain ⟨h1, h2⟩ := h
  exact ⟨by show (bothP (walkL R)).size ≤ _; omega, by show (bothP (walkL R)).dep ≤ _; omega⟩
end

/-! ### texts -/
abbrev Place := LK × Nat
/-- the calls that are open ahead of place k, the innermost first -/
def opn (row : List Place) : Nat → List Nat
  | 0 => []
  | k + 1 => match row[k]? with
    | some (.call, _) => k :: opn row k
    | some (.ret, _) => (opn row k).tail
    | _ => opn row k
/-- the arches whose returns lie ahead of place k, by their returns -/
def prs (row : List Place) : Nat → List (Nat × Nat)
  | 0 => []
  | k + 1 => match row[k]? with
    | some (.ret, _) => prs row k ++ [((opn row k).headD 0, k)]
    | _ => prs row k
/-- value and open calls ahead of place k -/
def stA (R : Rdr) (row : List Place) : Nat → Nat × List (Nat × Nat)
  | 0 => (0, [])
  | k + 1 => match row[k]? with
    | some (.call, a) => (0, ((stA R row k).1, a) :: (stA R row k).2)
    | some (.ret, b) => (R.mul ((stA R row k).2.headD (0, 0)).1 (R.wrap ((stA R row k).2.headD (0, 0)).2 b (stA R row k).1), (stA R row k).2.tail)
    | some (_, a) => (R.mul (stA R row k).1 (R.letters a), (stA R row k).2)
    | none => stA R row k
/-- the value that point 39 tells of place k -/
def valAt (R : Rdr) (row : List Place) (k : Nat) : Nat := match row[k]? with
  | some (.call, _) => (stA R row k).1
  | _ => (stA R row (k + 1)).1
/-- no return without its call -/
def PreOk (row : List Place) : Prop := ∀ k b, row[k]? = some (.ret, b) → opn row k ≠ []
structure RowOk (R : Rdr) (row : List Place) : Prop where
  pre : PreOk row
  bal : opn row row.length = []
  noset : ∀ (k a : Nat), row[k]? ≠ some (.set, a)
  lett : ∀ (k a : Nat), row[k]? = some (.letter, a) → a < R.l
  call : ∀ (k a : Nat), row[k]? = some (.call, a) → a < R.c
  ret : ∀ (k a : Nat), row[k]? = some (.ret, a) → a < R.r
theorem opn_call {row : List Place} {k a : Nat} (h : row[k]? = some (.call, a)) : opn row (k + 1) = k :: opn row k := by
  show (match row[k]? with
    | some (.call, _) => k :: opn row k
    | some (.ret, _) => (opn row k).tail
    | _ => opn row k) = _
  rw [h]
theorem opn_ret {row : List Place} {k a : Nat} (h : row[k]? = some (.ret, a)) : opn row (k + 1) = (opn row k).tail := by
  show (match row[k]? with
    | some (.call, _) => k :: opn row k
    | some (.ret, _) => (opn row k).tail
    | _ => opn row k) = _
  rw [h]
theorem opn_letter {row : List Place} {k a : Nat} (h : row[k]? = some (.letter, a)) : opn row (k + 1) = opn row k := by
  show (match row[k]? with
    | some (.call, _) => k :: opn row k
    | some (.ret, _) => (opn row k).tail
    | _ => opn row k) = _
  rw [h]
theorem stA_call {R : Rdr} {row : List Place} {k a : Nat} (h : row[k]? = some (.call, a)) : stA R row (k + 1) = (0, ((stA R row k).1, a) :: (stA R row k).2) := by
  rw [stA, h]
theorem stA_ret {R : Rdr} {row : List Place} {k b : Nat} (h : row[k]? = some (.ret, b)) : stA R row (k + 1) = (R.mul ((stA R row k).2.headD (0, 0)).1 (R.wrap ((stA R row k).2.headD (0, 0)).2 b (stA R row k).1), (stA R row k).2.tail) := by
  rw [stA, h]
theorem stA_letter {R : Rdr} {row : List Place} {k a : Nat} (h : row[k]? = some (.letter, a)) : stA R row (k + 1) = (R.mul (stA R row k).1 (R.letters a), (stA R row k).2) := by
  rw [stA, h]
theorem val_call {R : Rdr} {row : List Place} {k a : Nat} (h : row[k]? = some (.call, a)) : valAt R row k = (stA R row k).1 := by
  unfold valAt
  rw [h]
theorem val_ret {R : Rdr} {row : List Place} {k a : Nat} (h : row[k]? = some (.ret, a)) : valAt R row k = (stA R row (k + 1)).1 := by
  unfold valAt
  rw [h]
theorem val_letter {R : Rdr} {row : List Place} {k a : Nat} (h : row[k]? = some (.letter, a)) : valAt R row k = (stA R row (k + 1)).1 := by
  unfold valAt
  rw [h]
theorem prs_ret {row : List Place} {k a : Nat} (h : row[k]? = some (.ret, a)) : prs row (k + 1) = prs row k ++ [((opn row k).headD 0, k)] := by
  show (match row[k]? with
    | some (.ret, _) => prs row k ++ [((opn row k).headD 0, k)]
    | _ => prs row k) = _
  rw [h]
theorem prs_call {row : List Place} {k a : Nat} (h : row[k]? = some (.call, a)) : prs row (k + 1) = prs row k := by
  show (match row[k]? with
    | some (.ret, _) => prs row k ++ [((opn row k).headD 0, k)]
    | _ => prs row k) = _
  rw [h]
theorem prs_letter {row : List Place} {k a : Nat} (h : row[k]? = some (.letter, a)) : prs row (k + 1) = prs row k := by
  show (match row[k]? with
    | some (.ret, _) => prs row k ++ [((opn row k).headD 0, k)]
    | _ => prs row k) = _
  rw [h]
section
variable {R : Rdr} {row : List Place} (W : RowOk R row)
theorem kinds (W : RowOk R row) {k : Nat} (h : k < row.length) : (∃ a, row[k]? = some (.letter, a) ∧ a < R.l) ∨ (∃ a, row[k]? = some (.call, a) ∧ a < R.c) ∨ (∃ a, row[k]? = some (.ret, a) ∧ a < R.r ∧ opn row k ≠ []) := by
  obtain ⟨x, hx⟩ : ∃ x, row[k]? = some x := ⟨row[k], List.getElem?_eq_getElem h⟩
  obtain ⟨kd, a⟩ := x
  cases kd with
  | set => exact absurd hx (W.noset k a)
  | letter => exact .inl ⟨a, hx, W.lett k a hx⟩
  | call => exact .inr (.inl ⟨a, hx, W.call k a hx⟩)
  | ret => exact .inr (.inr ⟨a, hx, W.ret k a hx, W.pre k a hx⟩)
/-- the open calls: their places, and what the reader keeps of them -/
theorem opn_ok (W : RowOk R row) : ∀ k, k ≤ row.length → (∀ i ∈ opn row k, i < k ∧ ∃ a, row[i]? = some (.call, a)) ∧ (stA R row k).2 = (opn row k).map fun i => ((stA R row i).1, ((row[i]?).getD (.set, 0)).2)
  | 0, _ => ⟨fun i h => (by cases h), rfl⟩
  | k + 1, hk => by
    obtain ⟨h1, h2⟩ := opn_ok W k (by omega)
    have up : ∀ i ∈ opn row k, i < k + 1 ∧ ∃ a, row[i]? = some (.call, a) := fun i hi => ⟨by have := (h1 i hi).1; omega, (h1 i hi).2⟩
    rcases kinds W (show k < row.length by omega) with ⟨a, e, _⟩ | ⟨a, e, _⟩ | ⟨a, e, _, ne⟩
    · rw [opn_letter e, stA_letter e]
      exact ⟨up, h2⟩
    · rw [opn_call e, stA_call e]
      refine ⟨fun i hi => ?_, ?_⟩
      · rcases List.mem_cons.mp hi with rfl | hi
        · exact ⟨Nat.lt_succ_self _, a, e⟩
        · exact up i hi
      · show _ :: (stA R row k).2 = _
        rw [List.map_cons, ← h2, e]
        rfl
    · rw [opn_ret e, stA_ret e]
      refine ⟨fun i hi => up i (List.mem_of_mem_tail hi), ?_⟩
      show (stA R row k).2.tail = _
      rw [h2, List.map_tail]
/-- values are values -/
theorem stA_lt (O : R.Ok) (W : RowOk R row) : ∀ k, k ≤ row.length → (stA R row k).1 < R.n ∧ ∀ x ∈ (stA R row k).2, x.1 < R.n ∧ x.2 < R.c
  | 0, _ => ⟨O.n1, fun x h => (by cases h)⟩
  | k + 1, hk => by
    obtain ⟨h1, h2⟩ := stA_lt O W k (by omega)
    rcases kinds W (show k < row.length by omega) with ⟨a, e, ha⟩ | ⟨a, e, ha⟩ | ⟨b, e, hb, ne⟩
    · rw [stA_letter e]
      exact ⟨O.mul _ _ h1 (O.letters _ ha), h2⟩
    · rw [stA_call e]
      refine ⟨O.n1, fun x hx => ?_⟩
      rcases List.mem_cons.mp hx with rfl | hx
      · exact ⟨h1, ha⟩
      · exact h2 x hx
    · rw [stA_ret e]
      obtain ⟨_, h4⟩ := opn_ok W k (by omega)
      cases ho : opn row k with
      | nil => exact absurd ho ne
      | cons i t =>
        rw [ho, List.map_cons] at h4
        have h5 := h2 _ (by rw [h4]; exact List.mem_cons_self)
        rw [h4] at h2 ⊢
        refine ⟨O.mul _ _ h5.1 (O.wrap _ _ _ h5.2 hb h1), fun x hx => h2 x (List.mem_of_mem_tail hx)⟩
theorem valAt_lt (O : R.Ok) (W : RowOk R row) {k : Nat} (h : k < row.length) : valAt R row k < R.n := by
  rcases kinds W h with ⟨a, e, ha⟩ | ⟨a, e, ha⟩ | ⟨b, e, hb, ne⟩
  · rw [val_letter e]; exact (stA_lt O W (k + 1) h).1
  · rw [val_call e]; exact (stA_lt O W k (by omega)).1
  · rw [val_ret e]; exact (stA_lt O W (k + 1) h).1
/-- an arch: its return, its call, and the values there -/
theorem prs_ok (W : RowOk R row) : ∀ k, k ≤ row.length → ∀ i j, (i, j) ∈ prs row k → j < k ∧ i < j ∧ ∃ a b, row[i]? = some (.call, a) ∧ row[j]? = some (.ret, b) ∧ (stA R row (j + 1)).1 = R.mul (stA R row i).1 (R.wrap a b (stA R row j).1)
  | 0, _, i, j, h => by cases h
  | k + 1, hk, i, j, h => by
    have ih := prs_ok W k (by omega) i j
    have up : (i, j) ∈ prs row k → j < k + 1 ∧ i < j ∧ ∃ a b, row[i]? = some (.call, a) ∧ row[j]? = some (.ret, b) ∧ (stA R row (j + 1)).1 = R.mul (stA R row i).1 (R.wrap a b (stA R row j).1) := fun q => by
      obtain ⟨q1, q2⟩ := ih q
      exact ⟨by omega, q2⟩
    rcases kinds W (show k < row.length by omega) with ⟨a, e, _⟩ | ⟨a, e, _⟩ | ⟨b, e, _, ne⟩
    · rw [prs_letter e] at h
      exact up h
    · rw [prs_call e] at h
      exact up h
    · rw [prs_ret e] at h
      rcases List.mem_append.mp h with h | h
      · exact up h
      · obtain ⟨h3, h4⟩ := opn_ok W k (by omega)
        cases ho : opn row k with
        | nil => exact absurd ho ne
        | cons i' t =>
          rw [ho] at h h3 h4
          have e2 := List.mem_singleton.mp h
          obtain ⟨ei, ej⟩ := Prod.mk.inj e2
          have ei : i = i' := ei
          subst ei ej
          obtain ⟨h5, a, h6⟩ := h3 i List.mem_cons_self
          refine ⟨Nat.lt_succ_self _, h5, a, b, h6, e, ?_⟩
          rw [stA_ret e, h4, List.map_cons, h6]
          rfl
/-- each return has its arch -/
theorem prs_has (W : RowOk R row) : ∀ k, k ≤ row.length → ∀ j b, j < k → row[j]? = some (.ret, b) → ∃ i, (i, j) ∈ prs row k
  | 0, _, j, b, h, _ => absurd h (Nat.not_lt_zero _)
  | k + 1, hk, j, b, h, e => by
    by_cases hj : j = k
    · subst hj
      exact ⟨_, by rw [prs_ret e]; exact List.mem_append_right _ List.mem_cons_self⟩
    · obtain ⟨i, hi⟩ := prs_has W k (by omega) j b (by omega) e
      refine ⟨i, ?_⟩
      rcases kinds W (show k < row.length by omega) with ⟨a, e, _⟩ | ⟨a, e, _⟩ | ⟨b, e, _, ne⟩
      · rw [prs_letter e]; exact hi
      · rw [prs_call e]; exact hi
      · rw [prs_ret e]; exact List.mem_append_left _ hi
end

/-! ### meaning -/
def tru (row : List Place) (S : List (List Nat)) (k : Nat) : Part → Bool
  | .leaf .set i => decide (i < S.length) && decide (k ∈ S.getD i [])
  | .leaf kd a => decide (row[k]? = some (kd, a))
  | .un .not p => !tru row S k p
  | .bi .and p q => tru row S k p && tru row S k q
  | _ => false
def so (row : List Place) (S : List (List Nat)) : Part → Bool
  | .bi .both p q => so row S p && so row S q
  | .un .all p => (List.range row.length).all fun k => tru row S k p
  | .un .first p => ((List.range row.length).take 1).all fun k => tru row S k p
  | .un .last p => ((List.range row.length).drop (row.length - 1)).all fun k => tru row S k p
  | .bi .next p q => (List.range (row.length - 1)).all fun k => !tru row S k p || tru row S (k + 1) q
  | .bi .arch p q => (prs row row.length).all fun x => !tru row S x.1 p || tru row S x.2 q
  | _ => false
section
variable {row : List Place} {S : List (List Nat)} {k : Nat}
theorem tru_yes : tru row S k yesP = true := by
  show (!(tru row S k (setP 0) && !tru row S k (setP 0))) = true
  cases tru row S k (setP 0) <;> rfl
theorem tru_every : ∀ ps : List Part, tru row S k (everyP ps) = ps.all fun p => tru row S k p
  | [] => tru_yes
  | p :: ps => by
    show (tru row S k p && tru row S k (everyP ps)) = _
    rw [tru_every ps, List.all_cons]
theorem tru_some : ∀ ps : List Part, tru row S k (someP ps) = ps.any fun p => tru row S k p
  | [] => by
    show (!tru row S k yesP) = _
    rw [tru_yes]
    rfl
  | p :: ps => by
    show (!(!tru row S k p && !tru row S k (someP ps))) = _
    rw [tru_some ps, List.any_cons]
    cases tru row S k p <;> simp
theorem tru_if (p q : Part) : tru row S k (ifP p q) = (!tru row S k p || tru row S k q) := by
  show (!(tru row S k p && !tru row S k q)) = _
  cases tru row S k p <;> cases tru row S k q <;> rfl
theorem tru_set {i : Nat} (h : i < S.length) : tru row S k (setP i) = decide (k ∈ S.getD i []) := by
  show (decide (i < S.length) && decide (k ∈ S.getD i [])) = _
  rw [decide_eq_true h, Bool.true_and]
theorem so_bothP : ∀ ps : List Part, so row S (bothP ps) = ps.all fun p => so row S p
  | [] => by
    show ((List.range row.length).all fun k => tru row S k yesP) = true
    rw [List.all_eq_true]
    exact fun _ _ => tru_yes
  | p :: ps => by
    show (so row S p && so row S (bothP ps)) = _
    rw [so_bothP ps, List.all_cons]
end
/-- k is in the set i -/
abbrev In (S : List (List Nat)) (i k : Nat) : Prop := k ∈ S.getD i []
/-- BEHIND(u) holds of place k -/
structure Beh (R : Rdr) (row : List Place) (S : List (List Nat)) (u k : Nat) : Prop where
  l : ∀ a, row[k]? = some (.letter, a) → In S (R.mul u (R.letters a)) k
  c : ∀ a, row[k]? = some (.call, a) → In S u k
  r : ∀ a, row[k]? = some (.ret, a) → In S (R.n + u) k
def isCall (row : List Place) (k : Nat) : Prop := ∃ a, row[k]? = some (.call, a)
/-- what the walk says -/
structure Says (R : Rdr) (row : List Place) (S : List (List Nat)) : Prop where
  apart : ∀ k v w, k < row.length → v < R.n → w < R.n → v ≠ w → In S v k → ¬ In S w k
  first : 0 < row.length → Beh R row S 0 0
  ncall : ∀ k, k + 1 < row.length → isCall row k → Beh R row S 0 (k + 1)
  next : ∀ u k, u < R.n → k + 1 < row.length → ¬ isCall row k → In S u k → Beh R row S u (k + 1)
  arch : ∀ u a i j b x, u < R.n → a < R.c → (i, j) ∈ prs row row.length → row[i]? = some (.call, a) → In S u i → x < R.n → row[j]? = some (.ret, b) → In S (R.n + x) j → In S (R.mul u (R.wrap a b x)) j
def Last (R : Rdr) (row : List Place) (S : List (List Nat)) : Prop := 0 < row.length → ∃ v, v ∈ R.acc ∧ In S v (row.length - 1)
section
variable {R : Rdr} {row : List Place} {S : List (List Nat)} (O : R.Ok) (W : RowOk R row) (hS : S.length = 2 * R.n)
theorem tru_beh (O : R.Ok) (W : RowOk R row) (hS : S.length = 2 * R.n) {u k : Nat} (hu : u < R.n) : tru row S k (behindP R u) = true ↔ Beh R row S u k := by
  have leaf : ∀ (kd : LK) (a : Nat), kd ≠ .set → tru row S k (.leaf kd a) = decide (row[k]? = some (kd, a)) := fun kd a h => by cases kd <;> first | rfl | exact absurd rfl h
  show tru row S k (everyP (behL R u)) = true ↔ _
  rw [tru_every, List.all_eq_true]
  constructor
  · intro h
    refine ⟨fun a e => ?_, fun a e => ?_, fun a e => ?_⟩
    · have q := h (behL1 R u a) (mem_behL.mpr (.inl ⟨a, W.lett _ _ e, rfl⟩))
      have hm := O.mul u _ hu (O.letters a (W.lett _ _ e))
      unfold behL1 at q
      rw [tru_if, leaf _ _ (by decide), decide_eq_true e, tru_set (by omega)] at q
      exact of_decide_eq_true q
    · have q := h (behL2 R u a) (mem_behL.mpr (.inr (.inl ⟨a, W.call _ _ e, rfl⟩)))
      unfold behL2 at q
      rw [tru_if, leaf _ _ (by decide), decide_eq_true e, tru_set (by omega)] at q
      exact of_decide_eq_true q
    · have q := h (behL3 R u a) (mem_behL.mpr (.inr (.inr ⟨a, W.ret _ _ e, rfl⟩)))
      unfold behL3 at q
      rw [tru_if, leaf _ _ (by decide), decide_eq_true e, tru_set (by omega)] at q
      exact of_decide_eq_true q
  · intro h p hp
    rcases mem_behL.mp hp with ⟨a, ha, rfl⟩ | ⟨a, ha, rfl⟩ | ⟨a, ha, rfl⟩
    · have hm := O.mul u _ hu (O.letters a ha)
      unfold behL1
      rw [tru_if, leaf _ _ (by decide), tru_set (by omega)]
      by_cases e : row[k]? = some (.letter, a)
      · rw [decide_eq_true (h.l a e), Bool.or_true]
      · rw [decide_eq_false e]; rfl
    · unfold behL2
      rw [tru_if, leaf _ _ (by decide), tru_set (by omega)]
      by_cases e : row[k]? = some (.call, a)
      · rw [decide_eq_true (h.c a e), Bool.or_true]
      · rw [decide_eq_false e]; rfl
    · unfold behL3
      rw [tru_if, leaf _ _ (by decide), tru_set (by omega)]
      by_cases e : row[k]? = some (.ret, a)
      · rw [decide_eq_true (h.r a e), Bool.or_true]
      · rw [decide_eq_false e]; rfl
theorem tru_call (W : RowOk R row) {k : Nat} : tru row S k (callP R) = true ↔ isCall row k := by
  unfold callP
  rw [tru_some, List.any_eq_true]
  constructor
  · rintro ⟨p, hp, h⟩
    obtain ⟨a, _, rfl⟩ := List.mem_map.mp hp
    exact ⟨a, of_decide_eq_true h⟩
  · rintro ⟨a, e⟩
    exact ⟨_, List.mem_map.mpr ⟨a, List.mem_range.mpr (W.call _ _ e), rfl⟩, decide_eq_true e⟩
theorem so_iff (O : R.Ok) (W : RowOk R row) (hS : S.length = 2 * R.n) : so row S (walkP R) = true ↔ Says R row S ∧ Last R row S := by
  unfold walkP
  rw [so_bothP, List.all_eq_true]
  constructor
  · intro h
    have hh : ∀ p ∈ walkHead R, so row S p = true := fun p hp => h p (mem_walkL.mpr (.inl hp))
    have h1 := hh (.un .all (everyP (apartL R))) List.mem_cons_self
    have h2 := hh (.un .first (behindP R 0)) (List.mem_cons_of_mem _ List.mem_cons_self)
    have h3 := hh (.bi .next (callP R) (behindP R 0)) (List.mem_cons_of_mem _ (List.mem_cons_of_mem _ List.mem_cons_self))
    have h4 := hh (.un .last (someP (R.acc.map setP))) (List.mem_cons_of_mem _ (List.mem_cons_of_mem _ (List.mem_cons_of_mem _ List.mem_cons_self)))
    refine ⟨⟨fun k v w hk hv hw ne i1 i2 => ?_, fun h0 => ?_, fun k hk hc => ?_, fun u k hu hk hc hi => ?_, fun u a i j b x hu ha hp ei hi hx ej hj => ?_⟩, fun h0 => ?_⟩
    · have q := List.all_eq_true.mp h1 k (List.mem_range.mpr hk)
      rw [tru_every] at q
      have q := List.all_eq_true.mp q _ (mem_apartL.mpr ⟨v, w, hv, hw, rfl⟩)
      unfold apartP at q
      rw [if_neg ne, tru_if, tru_set (by omega), decide_eq_true i1] at q
      have q : (!tru row S k (setP w)) = true := q
      rw [tru_set (by omega), decide_eq_true i2] at q
      cases q
    · have q := List.all_eq_true.mp h2 0 (by
        cases e : row.length with
        | zero => omega
        | succ n => rw [List.range_succ_eq_map]; exact List.mem_cons_self)
      exact (tru_beh O W hS O.n1).mp q
    · have q := List.all_eq_true.mp h3 k (List.mem_range.mpr (by omega))
      have q : (!tru row S k (callP R) || tru row S (k + 1) (behindP R 0)) = true := q
      rw [(tru_call W).mpr hc] at q
      exact (tru_beh O W hS O.n1).mp q
    · have q := h _ (mem_walkL.mpr (.inr (.inl ⟨u, hu, rfl⟩)))
      have q := List.all_eq_true.mp q k (List.mem_range.mpr (by omega))
      have q : (!(!tru row S k (callP R) && tru row S k (setP u)) || tru row S (k + 1) (behindP R u)) = true := q
      have hc' : tru row S k (callP R) = false := Bool.eq_false_iff.mpr fun z => hc ((tru_call W).mp z)
      rw [hc', tru_set (by omega), decide_eq_true hi] at q
      exact (tru_beh O W hS hu).mp q
    · have q := h _ (mem_walkL.mpr (.inr (.inr ⟨u, a, hu, ha, rfl⟩)))
      have q := List.all_eq_true.mp q (i, j) hp
      have q : (!(decide (row[i]? = some (.call, a)) && tru row S i (setP u)) || tru row S j (everyP (archL R u a))) = true := q
      rw [decide_eq_true ei, tru_set (by omega), decide_eq_true hi, tru_every] at q
      have hb := W.ret _ _ ej
      have q := List.all_eq_true.mp q _ (mem_archL.mpr ⟨b, x, hb, hx, rfl⟩)
      unfold arch1 at q
      rw [tru_if] at q
      have hm := O.mul u _ hu (O.wrap a b x ha hb hx)
      have q : (!(decide (row[j]? = some (.ret, b)) && tru row S j (setP (R.n + x))) || tru row S j (setP (R.mul u (R.wrap a b x)))) = true := q
      rw [decide_eq_true ej, tru_set (by omega), decide_eq_true hj, tru_set (by omega)] at q
      exact of_decide_eq_true q
    · have q := List.all_eq_true.mp h4 (row.length - 1) (by
        rw [List.mem_iff_getElem?]
        exact ⟨0, by rw [List.getElem?_drop, List.getElem?_range (by omega)]; rfl⟩)
      rw [tru_some] at q
      obtain ⟨p, hp, q⟩ := List.any_eq_true.mp q
      obtain ⟨v, hv, rfl⟩ := List.mem_map.mp hp
      have := O.acc v hv
      rw [tru_set (by omega)] at q
      exact ⟨v, hv, of_decide_eq_true q⟩
  · rintro ⟨Y, L⟩ p hp
    rcases mem_walkL.mp hp with h | ⟨u, hu, rfl⟩ | ⟨u, a, hu, ha, rfl⟩
    · rcases List.mem_cons.mp h with rfl | h
      · refine List.all_eq_true.mpr fun k hk => ?_
        rw [tru_every]
        refine List.all_eq_true.mpr fun p hp => ?_
        obtain ⟨v, w, hv, hw, rfl⟩ := mem_apartL.mp hp
        unfold apartP
        split
        · exact tru_yes
        · rename_i ne
          rw [tru_if, tru_set (by omega)]
          show (!decide (In S v k) || !tru row S k (setP w)) = true
          rw [tru_set (by omega)]
          by_cases e : In S v k
          · rw [decide_eq_false (Y.apart k v w (List.mem_range.mp hk) hv hw ne e)]
            simp
          · rw [decide_eq_false e]; rfl
      rcases List.mem_cons.mp h with rfl | h
      · refine List.all_eq_true.mpr fun k hk => ?_
        have e0 : k = 0 ∧ 0 < row.length := by
          cases e : row.length with
          | zero => rw [e] at hk; cases hk
          | succ n =>
            rw [e, List.range_succ_eq_map] at hk
            exact ⟨List.mem_singleton.mp hk, Nat.succ_pos _⟩
        rw [e0.1]
        exact (tru_beh O W hS O.n1).mpr (Y.first e0.2)
      rcases List.mem_cons.mp h with rfl | h
      · refine List.all_eq_true.mpr fun k hk => ?_
        have hk := List.mem_range.mp hk
        by_cases e : isCall row k
        · rw [(tru_beh O W hS O.n1).mpr (Y.ncall k (by omega) e), Bool.or_true]
        · rw [Bool.eq_false_iff.mpr fun z => e ((tru_call W).mp z)]; rfl
      rcases List.mem_cons.mp h with rfl | h
      · refine List.all_eq_true.mpr fun k hk => ?_
        obtain ⟨i, hi⟩ := List.mem_iff_getElem?.mp hk
        rw [List.getElem?_drop] at hi
        have hlt : row.length - 1 + i < row.length := by
          have h2 := (List.getElem?_eq_some_iff.mp hi).1
          rw [List.length_range] at h2
          exact h2
        rw [List.getElem?_range hlt] at hi
        have e : k = row.length - 1 := by
          have := Option.some.inj hi
          omega
        obtain ⟨v, hv, q⟩ := L (by omega)
        have := O.acc v hv
        rw [tru_some]
        refine List.any_eq_true.mpr ⟨_, List.mem_map.mpr ⟨v, hv, rfl⟩, ?_⟩
        rw [tru_set (by omega), e]
        exact decide_eq_true q
      · cases h
    · refine List.all_eq_true.mpr fun k hk => ?_
      have hk := List.mem_range.mp hk
      show (!(!tru row S k (callP R) && tru row S k (setP u)) || tru row S (k + 1) (behindP R u)) = true
      by_cases e : isCall row k
      · rw [(tru_call W).mpr e]; rfl
      · rw [tru_set (by omega)]
        by_cases e2 : In S u k
        · rw [(tru_beh O W hS hu).mpr (Y.next u k hu (by omega) e e2), Bool.or_true]
        · rw [decide_eq_false e2]
          cases tru row S k (callP R) <;> rfl
    · refine List.all_eq_true.mpr fun x hx => ?_
      obtain ⟨i, j⟩ := x
      show (!(decide (row[i]? = some (.call, a)) && tru row S i (setP u)) || tru row S j (everyP (archL R u a))) = true
      by_cases e : row[i]? = some (.call, a)
      · rw [tru_set (by omega)]
        by_cases e2 : In S u i
        · rw [tru_every]
          have q : ((archL R u a).all fun p => tru row S j p) = true := by
            refine List.all_eq_true.mpr fun p hp => ?_
            obtain ⟨b, x, hb, hx', rfl⟩ := mem_archL.mp hp
            have hm := O.mul u _ hu (O.wrap a b x ha hb hx')
            unfold arch1
            rw [tru_if]
            show (!(decide (row[j]? = some (.ret, b)) && tru row S j (setP (R.n + x))) || tru row S j (setP (R.mul u (R.wrap a b x)))) = true
            rw [tru_set (by omega), tru_set (by omega)]
            by_cases e3 : row[j]? = some (.ret, b)
            · by_cases e4 : In S (R.n + x) j
              · rw [decide_eq_true (Y.arch u a i j b x hu ha hx e e2 hx' e3 e4), Bool.or_true]
              · rw [decide_eq_false e4]
                simp
            · rw [decide_eq_false e3]; rfl
          rw [q, Bool.or_true]
        · rw [decide_eq_false e2]
          simp
      · rw [decide_eq_false e]; rfl

/-! ### point 43 -/
/-- the sets of point 39 -/
def docV (R : Rdr) (row : List Place) (k v : Nat) : List Nat := (List.range k).filter fun j => decide (valAt R row j = v)
def isRet (row : List Place) (k : Nat) : Bool := match row[k]? with
  | some (.ret, _) => true
  | _ => false
def docI (R : Rdr) (row : List Place) (k u : Nat) : List Nat := (List.range k).filter fun j => isRet row j && decide ((stA R row j).1 = u)
/-- .. of the first k places -/
def docK (R : Rdr) (row : List Place) (k : Nat) : List (List Nat) := (List.range R.n).map (docV R row k) ++ (List.range R.n).map (docI R row k)
def docS (R : Rdr) (row : List Place) : List (List Nat) := docK R row row.length
theorem docK_len (R : Rdr) (row : List Place) (k : Nat) : (docK R row k).length = 2 * R.n := by
  unfold docK
  rw [List.length_append, List.length_map, List.length_map, List.length_range]
  omega
theorem docK_v {R : Rdr} {row : List Place} {k v : Nat} (h : v < R.n) : (docK R row k).getD v [] = docV R row k v := by
  unfold docK
  rw [List.getD_eq_getElem?_getD, List.getElem?_append_left (by rw [List.length_map, List.length_range]; exact h), List.getElem?_map, List.getElem?_range h]
  rfl
theorem docK_i {R : Rdr} {row : List Place} {k u : Nat} (h : u < R.n) : (docK R row k).getD (R.n + u) [] = docI R row k u := by
  unfold docK
  rw [List.getD_eq_getElem?_getD, List.getElem?_append_right (by rw [List.length_map, List.length_range]; omega), List.length_map, List.length_range, Nat.add_sub_cancel_left, List.getElem?_map, List.getElem?_range h]
  rfl
theorem mem_docV {R : Rdr} {row : List Place} {k v : Nat} (hv : v < R.n) : In (docS R row) v k ↔ k < row.length ∧ valAt R row k = v := by
  show k ∈ (docK R row row.length).getD v [] ↔ _
  rw [docK_v hv]
  unfold docV
  rw [List.mem_filter, List.mem_range, decide_eq_true_iff]
theorem isRet_iff {row : List Place} {k : Nat} : isRet row k = true ↔ ∃ b, row[k]? = some (.ret, b) := by
  unfold isRet
  constructor
  · intro h
    split at h
    · rename_i b e
      exact ⟨b, e⟩
    · cases h
  · rintro ⟨b, e⟩
    rw [e]
theorem mem_docI {R : Rdr} {row : List Place} {k u : Nat} (hu : u < R.n) : In (docS R row) (R.n + u) k ↔ k < row.length ∧ (∃ b, row[k]? = some (.ret, b)) ∧ (stA R row k).1 = u := by
  show k ∈ (docK R row row.length).getD (R.n + u) [] ↔ _
  rw [docK_i hu]
  unfold docI
  rw [List.mem_filter, List.mem_range, Bool.and_eq_true, decide_eq_true_iff, isRet_iff]
theorem at_lt {α : Type} {row : List α} {k : Nat} {x : α} (h : row[k]? = some x) : k < row.length := (List.getElem?_eq_some_iff.mp h).1
theorem doc_beh (O : R.Ok) (W : RowOk R row) {k : Nat} (hk : k < row.length) : Beh R row (docS R row) (stA R row k).1 k := by
  have hv := valAt_lt O W hk
  have hu := (stA_lt O W k (Nat.le_of_lt hk)).1
  refine ⟨fun a e => ?_, fun a e => ?_, fun b e => ?_⟩
  · rw [val_letter e, stA_letter e] at hv
    refine (mem_docV hv).mpr ⟨hk, ?_⟩
    rw [val_letter e, stA_letter e]
  · exact (mem_docV hu).mpr ⟨hk, val_call e⟩
  · exact (mem_docI hu).mpr ⟨hk, ⟨b, e⟩, rfl⟩
theorem doc_says (O : R.Ok) (W : RowOk R row) : Says R row (docS R row) := by
  refine ⟨fun k v w hk hv hw ne h1 h2 => ?_, fun h0 => ?_, fun k hk ⟨a, e⟩ => ?_, fun u k hu hk hc hi => ?_, fun u a i j b x hu ha hp ei hi hx ej hj => ?_⟩
  · have e1 := ((mem_docV hv).mp h1).2
    have e2 := ((mem_docV hw).mp h2).2
    exact ne (e1.symm.trans e2)
  · exact doc_beh O W h0
  · have q := doc_beh O W hk
    rw [stA_call e] at q
    exact q
  · have q := doc_beh O W hk
    have e : valAt R row k = (stA R row (k + 1)).1 := by
      rcases kinds W (show k < row.length by omega) with ⟨a, e, _⟩ | ⟨a, e, _⟩ | ⟨b, e, _, _⟩
      · exact val_letter e
      · exact absurd ⟨a, e⟩ hc
      · exact val_ret e
    rw [← e, ((mem_docV hu).mp hi).2] at q
    exact q
  · obtain ⟨hj1, hij, a', b', e1, e2, e3⟩ := prs_ok W _ (Nat.le_refl _) i j hp
    rw [ei] at e1
    rw [ej] at e2
    cases e1
    cases e2
    have q1 := ((mem_docV hu).mp hi).2
    rw [val_call ei] at q1
    have q2 := ((mem_docI hx).mp hj).2.2
    have hm := O.mul u _ hu (O.wrap a b x ha (W.ret _ _ ej) hx)
    refine (mem_docV hm).mpr ⟨hj1, ?_⟩
    rw [val_ret ej, e3, q1, q2]
theorem last_val (W : RowOk R row) (h0 : 0 < row.length) : valAt R row (row.length - 1) = (stA R row row.length).1 := by
  obtain ⟨k, hk⟩ : ∃ k, row.length = k + 1 := ⟨row.length - 1, by omega⟩
  rw [hk, Nat.add_sub_cancel]
  rcases kinds W (show k < row.length by omega) with ⟨a, e, _⟩ | ⟨a, e, _⟩ | ⟨b, e, _, _⟩
  · exact val_letter e
  · have q := W.bal
    rw [hk, opn_call e] at q
    cases q
  · exact val_ret e
/-- the walk with the sets of the document -/
theorem walk_doc (O : R.Ok) (W : RowOk R row) (h0 : 0 < row.length) : so row (docS R row) (walkP R) = decide ((stA R row row.length).1 ∈ R.acc) := by
  have key : so row (docS R row) (walkP R) = true ↔ (stA R row row.length).1 ∈ R.acc := by
    rw [so_iff O W (show (docS R row).length = 2 * R.n from docK_len R row row.length)]
    constructor
    · rintro ⟨_, L⟩
      obtain ⟨v, hv, q⟩ := L h0
      have q := ((mem_docV (O.acc v hv)).mp q).2
      rw [last_val W h0] at q
      rw [q]
      exact hv
    · intro h
      refine ⟨doc_says O W, fun _ => ⟨_, h, ?_⟩⟩
      exact (mem_docV (O.acc _ h)).mpr ⟨by omega, last_val W h0⟩
  by_cases e : (stA R row row.length).1 ∈ R.acc
  · rw [decide_eq_true e]
    exact key.mpr e
  · rw [decide_eq_false e]
    exact Bool.eq_false_iff.mpr fun z => e (key.mp z)
/-- the values are fixed by the walk -/
theorem says_val (O : R.Ok) (W : RowOk R row) (Y : Says R row S) (hI : ∀ u, u < R.n → S.getD (R.n + u) [] = (docS R row).getD (R.n + u) []) : ∀ k, k < row.length → In S (valAt R row k) k := by
  intro k
  induction k using Nat.strongRecOn with
  | ind k ih =>
    intro hk
    have beh : opn row k ≠ [] ∨ (∀ b, row[k]? ≠ some (.ret, b)) → Beh R row S (stA R row k).1 k := by
      intro _
      cases k with
      | zero => exact Y.first hk
      | succ k =>
        rcases kinds W (show k < row.length by omega) with ⟨a, e, _⟩ | ⟨a, e, _⟩ | ⟨b, e, _, _⟩
        · refine Y.next _ k (stA_lt O W (k + 1) (by omega)).1 hk (fun ⟨a', e'⟩ => ?_) ?_
          · rw [e] at e'; cases e'
          · rw [← val_letter e]
            exact ih k (Nat.lt_succ_self _) (by omega)
        · rw [stA_call e]
          exact Y.ncall k hk ⟨a, e⟩
        · refine Y.next _ k (stA_lt O W (k + 1) (by omega)).1 hk (fun ⟨a', e'⟩ => ?_) ?_
          · rw [e] at e'; cases e'
          · rw [← val_ret e]
            exact ih k (Nat.lt_succ_self _) (by omega)
    rcases kinds W hk with ⟨a, e, _⟩ | ⟨a, e, _⟩ | ⟨b, e, hb, ne⟩
    · have q := (beh (.inr fun b e' => by rw [e] at e'; cases e')).l a e
      rw [val_letter e, stA_letter e]
      exact q
    · have q := (beh (.inr fun b e' => by rw [e] at e'; cases e')).c a e
      rw [val_call e]
      exact q
    · obtain ⟨i, hi⟩ := prs_has W _ (Nat.le_refl _) k b hk e
      obtain ⟨_, hik, a, b', e1, e2, e3⟩ := prs_ok W _ (Nat.le_refl _) i k hi
      rw [e] at e2
      cases e2
      have q1 := ih i hik (by omega)
      rw [val_call e1] at q1
      have hx := (stA_lt O W k (by omega)).1
      have q2 : In S (R.n + (stA R row k).1) k := by
        show k ∈ S.getD (R.n + (stA R row k).1) []
        rw [hI _ hx]
        exact (mem_docI hx).mpr ⟨hk, ⟨b, e⟩, rfl⟩
      have q := Y.arch _ a i k b _ (stA_lt O W i (by omega)).1 (W.call _ _ e1) hi e1 q1 hx e q2
      rw [val_ret e, e3]
      exact q
/-- one place put into or taken out of one of the sets 0 to n - 1 -/
theorem walk_other (O : R.Ok) (W : RowOk R row) (hS : S.length = 2 * R.n) {num at_ : Nat} (hn : num < R.n) (ha : at_ < row.length)
    (hI : ∀ u, u < R.n → S.getD (R.n + u) [] = (docS R row).getD (R.n + u) [])
    (hN : In S num at_ ↔ ¬ In (docS R row) num at_) (hO : ∀ v, v < R.n → v ≠ num → (In S v at_ ↔ In (docS R row) v at_)) : so row S (walkP R) = false := by
  refine Bool.eq_false_iff.mpr fun h => ?_
  obtain ⟨Y, _⟩ := (so_iff O W hS).mp h
  have q := says_val O W Y hI at_ ha
  have hv := valAt_lt O W ha
  by_cases e : valAt R row at_ = num
  · rw [e] at q
    exact hN.mp q ((mem_docV hn).mpr ⟨ha, e⟩)
  · have q2 : In S num at_ := hN.mpr fun z => e ((mem_docV hn).mp z).2
    exact Y.apart at_ _ num ha hv hn e q q2
end
end Arc


namespace Arc
open PySem PySem.Spec PyProof.Rows L2
abbrev St := L2.St
/-! ### the text by places -/
def topS (i : Nat) : Stmt := PySem.Challenge.pw_archway_k45_whole_walks.main.body.getD i (.Pass ⟨0, 0, 0, 0⟩)
abbrev sYes : Stmt := topS 8
abbrev sEvery : Stmt := topS 9
abbrev sSome : Stmt := topS 10
abbrev sIf : Stmt := topS 11
abbrev sBehind : Stmt := topS 12
abbrev sApart : Stmt := topS 13
abbrev sArch : Stmt := topS 14
abbrev sParts : Stmt := topS 15
abbrev sWalkP : Stmt := topS 16
abbrev sAdd : Stmt := topS 17
abbrev sLaid : Stmt := topS 18
abbrev sWalkFor : Stmt := topS 19
abbrev sSets : Stmt := topS 20
abbrev sCheck : Stmt := topS 23
abbrev sBehV : Stmt := topS 24
abbrev sValue : Stmt := topS 25
abbrev sAcc : Stmt := topS 26
abbrev sDraw : Stmt := topS 28
abbrev sText : Stmt := topS 29
abbrev sProd : Stmt := topS 30
abbrev sRdr : Stmt := topS 31
abbrev sTrue : Stmt := topS 32
abbrev sPairs : Stmt := topS 33
abbrev sSo : Stmt := topS 35
abbrev sLaw : Stmt := topS 36

/-! ### words -/
def LK.str : LK → Str
  | .set => "set"
  | .letter => "letter"
  | .call => "call"
  | .ret => "return"
def UK.str : UK → Str
  | .not => "not"
  | .all => "all"
  | .first => "first"
  | .last => "last"
def BK.str : BK → Str
  | .and => "and"
  | .next => "next"
  | .arch => "arch"
  | .both => "both"

/-! ### defs -/
section
variable {P : Program} {w : World} {K : PySem.W.Frag} {mg : Str → Option Value} {base : Heap}
/-- the def st stands under its name x -/
def DefAt (K : PySem.W.Frag) (mg : Str → Option Value) (x : Str) (st : Stmt) : Prop := ∃ f fd, Fun K x x st f fd ∧ mg x = some (.ref f)
/-- .. and keeps its promise -/
def Dn (P : Program) (w : World) (K : PySem.W.Frag) (mg : Str → Option Value) (base : Heap) (x : Str) (k : Nat) (ps : List Str) (sp : Sp) : Prop :=
  ∃ f fd, FnOk P w K mg base CX0 k f fd ps sp ∧ Binds K fd ps [] ∧ PySem.W.keepIn K (.ref f) = true ∧ mg x = some (.ref f)
theorem Dn.mono {x : Str} {j k : Nat} {ps : List Str} {sp : Sp} (D : Dn P w K mg base x j ps sp) (h : j ≤ k) : Dn P w K mg base x k ps sp := by
  obtain ⟨f, fd, F, b, kp, m⟩ := D
  exact ⟨f, fd, F.mono h, b, kp, m⟩
theorem dn_mk {x : Str} {st : Stmt} {N ps : List Str} {k : Nat} {sp : Sp} (A : DefAt K mg x st) (S : FnScope N ps (defScope st))
    (b : ∀ (kV doc pm : Value) (an : Option Addr) (cdv ct : Value) (us : List Value), us.length = ps.length → bindArgs (PySem.W.fnOf x x (defArgs st) (defBody st) (defScope st) .none kV doc pm an cdv ct) ⟨us, []⟩ = pure (ps.zip us))
    (len : ∀ vs H Q E, sp vs H Q E → vs.length = ps.length)
    (hbody : ∀ (f : Addr) (cdv : Value) (A : Around) (outer : List Env) (s : Shared) (H : Hp) (vs : List V) (Q : VK) (E : XK), Room k (A.deeper (envOfC x (defScope st) s.heap.objs.size f cdv)) → sp vs H Q E →
      ∃ t, PSs (cxOf CX0 P w K mg base N x (defScope st) f cdv A outer s H E).nox (defBody st) t ∧ t { nx := fun _ H' => Q .non H', rt := Q } (start N vs) H) : Dn P w K mg base x (k + 1) ps sp := by
  obtain ⟨f, fd, F, m⟩ := A
  exact ⟨f, fd, F.ok S len (fun cdv A outer s H vs Q E hr h => hbody f cdv A outer s H vs Q E hr h), F.binds b, F.kp, m⟩
theorem pe_dn {X : Cx} {x : Str} {k : Nat} {ps : List Str} {sp : Sp} {e : Expr} {es : List Expr} {t : TA} {p pos : Pos} (D : Dn X.prog X.w X.K X.mg X.base x k ps sp) (hr : Room k X.A) (hg : Gl X x) (ha : PA X (e :: es) t)
    (hdb : (x == ("__debug__" : Str)) = false := by decide) (he : starEach (e :: es) X.env = (false, eval e X.env) :: starEach es X.env := by rfl) (hpl : (backTo pos (starEach es X.env)).any (·.1) = false := by rfl) :
    PE X (.Call (.Name x p) (e :: es) [] pos) (tCall sp [] E0 t) := by
  obtain ⟨f, fd, F, b, kp, m⟩ := D
  exact pe_call F hr hg m kp b .nil pass0 ha hdb he hpl
theorem pe_dn0 {X : Cx} {x : Str} {k : Nat} {ps : List Str} {sp : Sp} {p pos : Pos} (D : Dn X.prog X.w X.K X.mg X.base x k ps sp) (hr : Room k X.A) (hg : Gl X x)
    (hdb : (x == ("__debug__" : Str)) = false := by decide) : PE X (.Call (.Name x p) [] [] pos) (tCall sp [] E0 tNil) := by
  obtain ⟨f, fd, F, b, kp, m⟩ := D
  exact pe_call0 F hr hg m kp b .nil pass0 hdb
end

/-- names that the module leaves to the built-ins -/
structure Tx (mg : Str → Option Value) : Prop where
  len : mg "len" = none
  range : mg "range" = none
  reversed : mg "reversed" = none
  int : mg "int" = none
  max : mg "max" = none
  all : mg "all" = none
  tuple : mg "tuple" = none
  list : mg "list" = none
  enumerate : mg "enumerate" = none
/-- rules whose readings name K alone -/
def tLenS (K : PySem.W.Frag) : List V → Hp → VK → Prop := fun xs H Q => ∃ p ys, xs = [.ref p] ∧ (SqL K H p ys ∨ SqT K H p ys) ∧ Q (.int ys.length) H
theorem call_lenS {X : Cx} : CallR X (.builtin "len") (tLenS X.K) := call_len_seq
def tTupO (K : PySem.W.Frag) : List V → Hp → VK → Prop := fun xs H Q => ∃ p ys, xs = [.ref p] ∧ ((SqL K H p ys ∧ ∀ l, H l = none → Q (.ref l) (upd H l (.tup ys))) ∨ (SqT K H p ys ∧ Q (.ref p) H))
theorem call_tupO {X : Cx} : CallR X (.type "tuple") (tTupO X.K) := call_tuple_of
def tLstO (K : PySem.W.Frag) : List V → Hp → VK → Prop := fun xs H Q => ∃ p ys, xs = [.ref p] ∧ (SqL K H p ys ∨ SqT K H p ys) ∧ ∀ l, H l = none → Q (.ref l) (upd H l (.lst ys))
theorem call_lstO {X : Cx} : CallR X (.type "list") (tLstO X.K) := call_list_of

/-! ### heaps -/
/-- tuples stay -/
def Tp (H H' : Hp) : Prop := ∀ a xs, H a = some (.tup xs) → H' a = some (.tup xs)
theorem Same.tp {H H' : Hp} (e : Same H H') : Tp H H' := fun a xs h => e a _ h
theorem Tp.refl (H : Hp) : Tp H H := fun _ _ h => h
theorem Tp.trans {H H1 H2 : Hp} (a : Tp H H1) (b : Tp H1 H2) : Tp H H2 := fun c xs h => b c xs (a c xs h)
theorem tp_new {H : Hp} {p : Addr} {o : HO} (h : H p = none) : Tp H (upd H p o) := fun a xs e => by
  rw [upd_ne (ne_of_none e h)]
  exact e
theorem tp_lst {H : Hp} {p : Addr} {xs ys : List V} (h : H p = some (.lst xs)) : Tp H (upd H p (.lst ys)) := fun a zs e => by
  rw [upd_ne (ne_of e h (by intro z; cases z))]
  exact e
theorem same_new {H : Hp} {p : Addr} {o : HO} (h : H p = none) : Same H (upd H p o) := fun b u q => by
  rw [upd_ne (ne_of_none q h)]
  exact q
/-- an object that H does not know may change -/
theorem same_mut {H H' : Hp} {p : Addr} {o : HO} (e : Same H H') (h : H p = none) : Same H (upd H' p o) := fun b u q => by
  rw [upd_ne (ne_of_none q h)]
  exact e b u q
theorem same_t {K : PySem.W.Frag} {H H' : Hp} {a : Addr} {xs : List V} (e : Same H H') (h : SqT K H a xs) : SqT K H' a xs := by
  rcases h with (h | ⟨o, h⟩) | h
  · exact .inl (.inl (e _ _ h))
  · exact .inl (.inr ⟨o, e _ _ h⟩)
  · exact .inr h
theorem sqt {K : PySem.W.Frag} {H : Hp} {a : Addr} {xs : List V} (h : H a = some (.tup xs)) : SqT K H a xs := .inl (.inl h)
theorem sql {K : PySem.W.Frag} {H : Hp} {a : Addr} {xs : List V} (h : H a = some (.lst xs)) : SqL K H a xs := .inl (.inl h)
theorem sz {n : Nat} (h : n ≤ 100000) : n ≤ sizeLine := Nat.le_trans h (by decide)
theorem szlt {n : Nat} (h : n < 100000) : n < sizeLine := Nat.lt_of_lt_of_le h (by decide)

/-! ### parts in the heap -/
def Rep (H : Hp) : Part → V → Prop
  | .leaf k i, v => ∃ a, v = .ref a ∧ H a = some (.tup [.str k.str, .int (i : Int)])
  | .un k p, v => ∃ a x, v = .ref a ∧ H a = some (.tup [.str k.str, x]) ∧ Rep H p x
  | .bi k p q, v => ∃ a x y, v = .ref a ∧ H a = some (.tup [.str k.str, x, y]) ∧ Rep H p x ∧ Rep H q y
theorem Rep.tp {H H' : Hp} (e : Tp H H') : ∀ {p : Part} {v : V}, Rep H p v → Rep H' p v
  | .leaf k i, v, ⟨a, e1, h⟩ => ⟨a, e1, e _ _ h⟩
  | .un k p, v, ⟨a, x, e1, h, r⟩ => ⟨a, x, e1, e _ _ h, Rep.tp e r⟩
  | .bi k p q, v, ⟨a, x, y, e1, h, r, r'⟩ => ⟨a, x, y, e1, e _ _ h, Rep.tp e r, Rep.tp e r'⟩
theorem Rep.same {H H' : Hp} (e : Same H H') {p : Part} {v : V} (r : Rep H p v) : Rep H' p v := r.tp (Same.tp e)
theorem rep_leaf {H : Hp} {a : Addr} (k : LK) (i : Nat) (h : H a = some (.tup [.str k.str, .int (i : Int)])) : Rep H (.leaf k i) (.ref a) := ⟨a, rfl, h⟩
theorem rep_un {H : Hp} {a : Addr} {x : V} {p : Part} (k : UK) (h : H a = some (.tup [.str k.str, x])) (r : Rep H p x) : Rep H (.un k p) (.ref a) := ⟨a, x, rfl, h, r⟩
theorem rep_bi {H : Hp} {a : Addr} {x y : V} {p q : Part} (k : BK) (h : H a = some (.tup [.str k.str, x, y])) (r : Rep H p x) (r' : Rep H q y) : Rep H (.bi k p q) (.ref a) := ⟨a, x, y, rfl, h, r, r'⟩
/-- a new tuple is a part over parts -/
theorem new_leaf {H : Hp} {a : Addr} (k : LK) (i : Nat) : Rep (upd H a (.tup [.str k.str, .int (i : Int)])) (.leaf k i) (.ref a) := rep_leaf k i upd_same
theorem new_un {H : Hp} {a : Addr} {x : V} {p : Part} (k : UK) (hn : H a = none) (r : Rep H p x) : Rep (upd H a (.tup [.str k.str, x])) (.un k p) (.ref a) := rep_un k upd_same (r.tp (tp_new hn))
theorem new_bi {H : Hp} {a : Addr} {x y : V} {p q : Part} (k : BK) (hn : H a = none) (r : Rep H p x) (r' : Rep H q y) : Rep (upd H a (.tup [.str k.str, x, y])) (.bi k p q) (.ref a) :=
  rep_bi k upd_same (r.tp (tp_new hn)) (r'.tp (tp_new hn))
def Reps (H : Hp) (ps : List Part) (vs : List V) : Prop := Paired (Rep H) ps vs
theorem Reps.tp {H H' : Hp} (e : Tp H H') {ps : List Part} {vs : List V} (h : Reps H ps vs) : Reps H' ps vs := Paired.mapP h fun _ _ r => r.tp e
theorem Reps.same {H H' : Hp} (e : Same H H') {ps : List Part} {vs : List V} (h : Reps H ps vs) : Reps H' ps vs := h.tp (Same.tp e)
theorem Reps.len {H : Hp} {ps : List Part} {vs : List V} (h : Reps H ps vs) : ps.length = vs.length := Paired.length h
theorem Reps.app {H : Hp} : ∀ {ps qs : List Part} {vs ws : List V}, Reps H ps vs → Reps H qs ws → Reps H (ps ++ qs) (vs ++ ws)
  | _, _, _, _, .nil, s => s
  | _, _, _, _, .cons r t, s => .cons r (Reps.app t s)
theorem Reps.snoc {H : Hp} {ps : List Part} {vs : List V} {p : Part} {v : V} (h : Reps H ps vs) (r : Rep H p v) : Reps H (ps ++ [p]) (vs ++ [v]) := Paired.snoc h r
theorem pair_get {α β : Type} {F : α → β → Prop} : ∀ {ps : List α} {vs : List β} {i : Nat} {v : β}, Paired F ps vs → vs[i]? = some v → ∃ p, ps[i]? = some p ∧ F p v
  | _, _, _, _, .nil, e => by simp at e
  | _, _, 0, _, .cons r _, e => by simp at e; subst e; exact ⟨_, rfl, r⟩
  | _, _, i + 1, x, .cons _ t, e => by
    obtain ⟨u, h1, h2⟩ := pair_get (i := i) (v := x) t (by simpa using e)
    exact ⟨u, by simpa using h1, h2⟩
theorem pair_get' {α β : Type} {F : α → β → Prop} : ∀ {ps : List α} {vs : List β} {i : Nat} {p : α}, Paired F ps vs → ps[i]? = some p → ∃ v, vs[i]? = some v ∧ F p v
  | _, _, _, _, .nil, e => by simp at e
  | _, _, 0, _, .cons r _, e => by simp at e; subst e; exact ⟨_, rfl, r⟩
  | _, _, i + 1, x, .cons _ t, e => by
    obtain ⟨u, h1, h2⟩ := pair_get' (i := i) (p := x) t (by simpa using e)
    exact ⟨u, by simpa using h1, h2⟩
theorem Rep.ref {H : Hp} : ∀ {p : Part} {v : V}, Rep H p v → ∃ a, v = .ref a
  | .leaf k i, v, ⟨a, e1, h⟩ => ⟨a, e1⟩
  | .un k p, v, ⟨a, x, e1, h, r⟩ => ⟨a, e1⟩
  | .bi k p q, v, ⟨a, x, y, e1, h, r, r'⟩ => ⟨a, e1⟩
/-- the promises' usual end: a part, all else as it was -/
def RetP (p : Part) (H : Hp) (Q : VK) : Prop := ∀ v H', Same H H' → Rep H' p v → Q v H'
end Arc


namespace Arc
open PySem PySem.Spec PyProof.Rows L2
/-! ### expressions that make parts -/
def EvR (te : TE) (σ : St) (H : Hp) (p : Part) : Prop := ∀ H1, Same H H1 → ∀ Q : VK, RetP p H1 Q → te σ H1 Q
/-- expressions that make nothing -/
def EvV (te : TE) (σ : St) (H : Hp) (v : V) : Prop := ∀ H1, Same H H1 → ∀ Q : VK, Q v H1 → te σ H1 Q
theorem EvR.mono {te : TE} {σ : St} {H H' : Hp} {p : Part} (h : EvR te σ H p) (e : Same H H') : EvR te σ H' p := fun H1 e1 => h H1 (e.trans e1)
theorem EvV.mono {te : TE} {σ : St} {H H' : Hp} {v : V} (h : EvV te σ H v) (e : Same H H') : EvV te σ H' v := fun H1 e1 => h H1 (e.trans e1)
theorem le2 : 2 ≤ sizeLine := by decide
theorem le3 : 3 ≤ sizeLine := by decide
section
variable {K : PySem.W.Frag} {σ : St} {H : Hp} {ta tb te : TE} {p q : Part} {v : V}
theorem evv_c : EvV (tC v) σ H v := fun _ _ _ q => q
theorem evv_var {i : Nat} (h : σ[i]? = some (some v)) : EvV (tVar i) σ H v := fun _ _ _ q => ⟨v, h, q⟩
theorem evr_var {i : Nat} (h : σ[i]? = some (some v)) (r : Rep H p v) : EvR (tVar i) σ H p := fun H1 e _ q => ⟨v, h, q v H1 (Same.refl _) (r.same e)⟩
theorem evr_leaf (k : LK) {i : Nat} (h : EvV te σ H (.int (i : Int))) : EvR (tTup (tCons (tC (.str k.str)) (tCons te tNil))) σ H (.leaf k i) := fun H1 e Q q =>
  h H1 e _ ⟨le2, fun a ha => q _ _ (same_new ha) (new_leaf k i)⟩
theorem evr_un (k : UK) (h : EvR te σ H p) : EvR (tTup (tCons (tC (.str k.str)) (tCons te tNil))) σ H (.un k p) := fun H1 e Q q =>
  h H1 e _ fun v H2 e2 r => ⟨le2, fun a ha => q _ _ (e2.trans (same_new ha)) (new_un k ha r)⟩
theorem evr_bi (k : BK) (h : EvR ta σ H p) (h' : EvR tb σ H q) : EvR (tTup (tCons (tC (.str k.str)) (tCons ta (tCons tb tNil)))) σ H (.bi k p q) := fun H1 e Q hq =>
  h H1 e _ fun v H2 e2 r => h' H2 (e.trans e2) _ fun w H3 e3 r' => ⟨le3, fun a ha => hq _ _ (e2.trans (e3.trans (same_new ha))) (new_bi k ha (r.same e3) r')⟩
/-- x = e, something behind; x = e, the end of a block -/
theorem q_set {i : Nat} {u : TS} {D : Ends} (h : EvR te σ H p) (k : ∀ v H1, Same H H1 → Rep H1 p v → u D (σ.set i (some v)) H1) : tSeq (tAsg te (gName i)) u D σ H := h H (Same.refl _) _ k
theorem l_set {i : Nat} {D : Ends} (h : EvR te σ H p) (k : ∀ v H1, Same H H1 → Rep H1 p v → D.nx (σ.set i (some v)) H1) : tAsg te (gName i) D σ H := h H (Same.refl _) _ k
theorem evr_is {p' : Part} (h : EvR te σ H p) (e : p = p') : EvR te σ H p' := e ▸ h
end
/-! ### yes -/
def spYes : Sp := fun vs H Q _ => vs = [] ∧ RetP yesP H Q
theorem evr_yes {σ : St} {H : Hp} : EvR (tCall spYes [] E0 tNil) σ H yesP := fun H1 _ Q q => ⟨rfl, q⟩
section
variable {P : Program} {w : World} {K : PySem.W.Frag} {mg : Str → Option Value} {base : Heap}
theorem scYes : FnScope [] [] (defScope sYes) := ⟨rfl, rfl, rfl, by decide +kernel, rfl, by decide +kernel, by decide +kernel⟩
theorem ok_yes (F : DefAt K mg "yes" sYes) : Dn P w K mg base "yes" 1 [] spYes := by
  refine dn_mk F scYes (fun _ _ _ _ _ _ us hl => match us, hl with | [], _ => rfl) (fun vs H Q E h => ?_) (fun f cdv A outer s H vs Q E hr h => ?_)
  · obtain ⟨rfl, _⟩ := h
    rfl
  · obtain ⟨rfl, q⟩ := h
    refine ⟨_, pss_one (ps_ret (pe_tup (pa_cons pe_str (pa_cons (pe_tup (pa_cons pe_str (pa_cons (pe_tup (pa_cons pe_str (pa_cons pe_int pa_nil)))
      (pa_cons (pe_tup (pa_cons pe_str (pa_cons (pe_tup (pa_cons pe_str (pa_cons pe_int pa_nil))) pa_nil))) pa_nil)))) pa_nil)))), ?_⟩
    exact evr_un .not (evr_bi .and (evr_leaf .set (i := 0) evv_c) (evr_un .not (evr_leaf .set (i := 0) evv_c))) H (Same.refl _) Q q
end
/-! ### if_then -/
def spIf : Sp := fun vs H Q _ => ∃ v w p q, vs = [v, w] ∧ Rep H p v ∧ Rep H q w ∧ RetP (ifP p q) H Q
theorem evr_if {σ : St} {H : Hp} {ta tb : TE} {p q : Part} (h : EvR ta σ H p) (h' : EvR tb σ H q) : EvR (tCall spIf [] E0 (tCons ta (tCons tb tNil))) σ H (ifP p q) := fun H1 e Q k =>
  h H1 e _ fun v H2 e2 r => h' H2 (e.trans e2) _ fun w H3 e3 r' => ⟨v, w, p, q, rfl, r.same e3, r', fun x H4 e4 r4 => k x H4 (e2.trans (e3.trans e4)) r4⟩
section
variable {P : Program} {w : World} {K : PySem.W.Frag} {mg : Str → Option Value} {base : Heap}
theorem scIf : FnScope ["first", "second"] ["first", "second"] (defScope sIf) := ⟨rfl, rfl, rfl, by decide +kernel, rfl, by decide +kernel, by decide +kernel⟩
theorem ok_if (F : DefAt K mg "if_then" sIf) : Dn P w K mg base "if_then" 1 ["first", "second"] spIf := by
  refine dn_mk F scIf (fun _ _ _ _ _ _ us hl => match us, hl with | [_, _], _ => rfl) (fun vs H Q E h => ?_) (fun f cdv A outer s H vs Q E hr h => ?_)
  · obtain ⟨v, w, p, q, rfl, _⟩ := h
    rfl
  · obtain ⟨v, w, p, q, rfl, r, r', k⟩ := h
    refine ⟨_, pss_one (ps_ret (pe_tup (pa_cons pe_str (pa_cons (pe_tup (pa_cons pe_str (pa_cons (pv 0) (pa_cons (pe_tup (pa_cons pe_str (pa_cons (pv 1) pa_nil))) pa_nil)))) pa_nil)))), ?_⟩
    exact evr_un .not (evr_bi .and (evr_var (i := 0) rfl r) (evr_un .not (evr_var (i := 1) rfl r'))) H (Same.refl _) Q k
end
/-! ### apart -/
def spApart : Sp := fun vs H Q _ => ∃ v w : Nat, vs = [.int (v : Int), .int (w : Int)] ∧ RetP (apartP v w) H Q
section
variable {P : Program} {w : World} {K : PySem.W.Frag} {mg : Str → Option Value} {base : Heap}
theorem scApart : FnScope ["v", "w"] ["v", "w"] (defScope sApart) := ⟨rfl, rfl, rfl, by decide +kernel, rfl, by decide +kernel, by decide +kernel⟩
theorem ok_apart (F : DefAt K mg "apart" sApart) (GY : Dn P w K mg base "yes" 1 [] spYes) (GI : Dn P w K mg base "if_then" 1 ["first", "second"] spIf) : Dn P w K mg base "apart" 2 ["v", "w"] spApart := by
  refine dn_mk F scApart (fun _ _ _ _ _ _ us hl => match us, hl with | [_, _], _ => rfl) (fun vs H Q E h => ?_) (fun f cdv A outer s H vs Q E hr h => ?_)
  · obtain ⟨v, w, rfl, _⟩ := h
    rfl
  · obtain ⟨v, w, rfl, k⟩ := h
    refine ⟨_, pss_cons (ps_if (pt_cmpR op_eq (pv 0) (pv 1) (nomark _)) (pss_one (ps_ret (pe_dn0 GY hr rfl))) pss_nil)
      (pss_one (ps_ret (pe_dn GI hr rfl (pa_cons (pe_tup (pa_cons pe_str (pa_cons (pv 0) pa_nil))) (pa_cons (pe_tup (pa_cons pe_str (pa_cons (pe_tup (pa_cons pe_str (pa_cons (pv 1) pa_nil))) pa_nil))) pa_nil))))), ?_⟩
    refine ⟨_, rfl, _, rfl, rfl, _, rfl, ite2 (fun c => ?_) (fun c => ?_)⟩
    · have e : (v : Int) = (w : Int) := V.int.inj (of_decide_eq_true c)
      have e : v = w := by omega
      refine evr_yes H (Same.refl _) Q ?_
      unfold apartP at k
      rw [if_pos e] at k
      exact k
    · have e : ¬ v = w := fun e => c (decide_eq_true (by rw [e]))
      unfold apartP at k
      rw [if_neg e] at k
      exact evr_if (evr_leaf .set (evv_var (i := 0) rfl)) (evr_un .not (evr_leaf .set (evv_var (i := 1) rfl))) H (Same.refl _) Q k
end
/-! ### every, some -/
def spEvery (K : PySem.W.Frag) : Sp := fun vs H Q _ => ∃ (a : Addr) (xs : List V) (ps : List Part), vs = [.ref a] ∧ SqL K H a xs ∧ Reps H ps xs ∧ RetP (everyP ps) H Q
def spSome (K : PySem.W.Frag) : Sp := fun vs H Q _ => ∃ (a : Addr) (xs : List V) (ps : List Part), vs = [.ref a] ∧ SqL K H a xs ∧ Reps H ps xs ∧ RetP (someP ps) H Q
section
variable {P : Program} {w : World} {K : PySem.W.Frag} {mg : Str → Option Value} {base : Heap}
theorem scEvery : FnScope ["parts", "made", "part"] ["parts"] (defScope sEvery) := ⟨rfl, rfl, rfl, by decide +kernel, rfl, by decide +kernel, by decide +kernel⟩
theorem drop_back {α : Type} {ps : List α} {i : Nat} {p : α} (h : i < ps.length) (e : ps[ps.length - 1 - i]? = some p) : ps.drop (ps.length - (i + 1)) = p :: ps.drop (ps.length - i) := by
  have e1 : ps.length - (i + 1) = ps.length - 1 - i := by omega
  have e2 : ps.length - i = (ps.length - 1 - i) + 1 := by omega
  have e3 := (List.getElem?_eq_some_iff.mp e)
  obtain ⟨hl, e4⟩ := e3
  rw [e1, e2, ← e4]
  exact List.drop_eq_getElem_cons hl
theorem ok_every (F : DefAt K mg "every" sEvery) (GY : Dn P w K mg base "yes" 1 [] spYes) (mR : mg "reversed" = none) : Dn P w K mg base "every" 2 ["parts"] (spEvery K) := by
  refine dn_mk F scEvery (fun _ _ _ _ _ _ us hl => match us, hl with | [_], _ => rfl) (fun vs H Q E h => ?_) (fun f cdv A outer s H vs Q E hr h => ?_)
  · obtain ⟨a, xs, ps, rfl, _⟩ := h
    rfl
  · obtain ⟨a, xs, ps, rfl, hS, hR, k⟩ := h
    refine ⟨_, pss_cons (ps_set (i := 1) scEvery.nd rfl (.inl rfl) (pe_dn0 GY hr rfl))
      (pss_cons (ps_for PassesOwn.never rfl (pi_reversed rfl mR (pa_cons (pv 0) pa_nil)) (pg_name (i := 2) scEvery.nd rfl (.inl rfl))
        (pss_one (ps_set (i := 1) scEvery.nd rfl (.inl rfl) (pe_tup (pa_cons pe_str (pa_cons (pv 2) (pa_cons (pv 1) pa_nil)))))))
      (pss_one (ps_ret (pv 1)))), ?_⟩
    refine q_set evr_yes fun y H1 s1 ry => ?_
    refine ⟨_, rfl, a, xs, rfl, s1.seq hS, for_it walk_rev (fun i σ H' => ∃ (y : V) (z : Option V), σ = [some (.ref a), some y, z] ∧ Same H H' ∧ Rep H' (everyP (ps.drop (ps.length - i))) y)
      ⟨y, none, rfl, s1, by rw [Nat.sub_zero, List.drop_length]; exact ry⟩ (fun i σ H' _ ⟨_, _, _, e, _⟩ => e.seq hS) ?_ ?_⟩
    · rintro i x σ H2 H3 hi ⟨y, z, rfl, s2, r2⟩ ⟨rfl, hx⟩
      rw [← hR.len] at hi hx
      obtain ⟨p, hp, rp⟩ := pair_get hR hx
      refine l_set (evr_bi .and (evr_var (i := 2) rfl (rp.same s2)) (evr_var (i := 1) rfl r2)) fun v H4 s4 r4 => ?_
      refine ⟨v, some x, rfl, s2.trans s4, ?_⟩
      rw [drop_back hi hp]
      exact r4
    · rintro σ H2 ⟨y, z, rfl, s2, r2⟩
      rw [← hR.len, Nat.sub_self] at r2
      exact ⟨y, rfl, k y H2 s2 r2⟩
theorem scSome : FnScope ["parts", "made", "part"] ["parts"] (defScope sSome) := ⟨rfl, rfl, rfl, by decide +kernel, rfl, by decide +kernel, by decide +kernel⟩
theorem ok_some (F : DefAt K mg "some" sSome) (GY : Dn P w K mg base "yes" 1 [] spYes) (mR : mg "reversed" = none) : Dn P w K mg base "some" 2 ["parts"] (spSome K) := by
  refine dn_mk F scSome (fun _ _ _ _ _ _ us hl => match us, hl with | [_], _ => rfl) (fun vs H Q E h => ?_) (fun f cdv A outer s H vs Q E hr h => ?_)
  · obtain ⟨a, xs, ps, rfl, _⟩ := h
    rfl
  · obtain ⟨a, xs, ps, rfl, hS, hR, k⟩ := h
    refine ⟨_, pss_cons (ps_set (i := 1) scSome.nd rfl (.inl rfl) (pe_tup (pa_cons pe_str (pa_cons (pe_dn0 GY hr rfl) pa_nil))))
      (pss_cons (ps_for PassesOwn.never rfl (pi_reversed rfl mR (pa_cons (pv 0) pa_nil)) (pg_name (i := 2) scSome.nd rfl (.inl rfl))
        (pss_one (ps_set (i := 1) scSome.nd rfl (.inl rfl) (pe_tup (pa_cons pe_str (pa_cons (pe_tup (pa_cons pe_str (pa_cons (pe_tup (pa_cons pe_str (pa_cons (pv 2) pa_nil)))
          (pa_cons (pe_tup (pa_cons pe_str (pa_cons (pv 1) pa_nil))) pa_nil)))) pa_nil))))))
      (pss_one (ps_ret (pv 1)))), ?_⟩
    refine q_set (evr_un .not evr_yes) fun y H1 s1 ry => ?_
    refine ⟨_, rfl, a, xs, rfl, s1.seq hS, for_it walk_rev (fun i σ H' => ∃ (y : V) (z : Option V), σ = [some (.ref a), some y, z] ∧ Same H H' ∧ Rep H' (someP (ps.drop (ps.length - i))) y)
      ⟨y, none, rfl, s1, by rw [Nat.sub_zero, List.drop_length]; exact ry⟩ (fun i σ H' _ ⟨_, _, _, e, _⟩ => e.seq hS) ?_ ?_⟩
    · rintro i x σ H2 H3 hi ⟨y, z, rfl, s2, r2⟩ ⟨rfl, hx⟩
      rw [← hR.len] at hi hx
      obtain ⟨p, hp, rp⟩ := pair_get hR hx
      refine l_set (evr_un .not (evr_bi .and (evr_un .not (evr_var (i := 2) rfl (rp.same s2))) (evr_un .not (evr_var (i := 1) rfl r2)))) fun v H4 s4 r4 => ?_
      refine ⟨v, some x, rfl, s2.trans s4, ?_⟩
      rw [drop_back hi hp]
      exact r4
    · rintro σ H2 ⟨y, z, rfl, s2, r2⟩
      rw [← hR.len, Nat.sub_self] at r2
      exact ⟨y, rfl, k y H2 s2 r2⟩
end
end Arc


namespace Arc
open PySem PySem.Spec PyProof.Rows L2
/-! ### a reader in the heap -/
def tabV (n : Nat) (f : Nat → Nat) : List V := (List.range n).map fun i => .int ((f i : Nat) : Int)
theorem tabV_len (n : Nat) (f : Nat → Nat) : (tabV n f).length = n := by
  unfold tabV
  rw [List.length_map, List.length_range]
theorem tabV_get {n i : Nat} (f : Nat → Nat) (h : i < n) : (tabV n f)[i]? = some (.int ((f i : Nat) : Int)) := by
  unfold tabV
  rw [List.getElem?_map, List.getElem?_range h]
  rfl
/-- n rows at addresses, row x with what T says -/
def RowsAt (H : Hp) (n : Nat) (T : Nat → Addr → Prop) (vs : List V) : Prop := vs.length = n ∧ ∀ x, x < n → ∃ p, vs[x]? = some (.ref p) ∧ T x p
structure RdIn (H : Hp) (R : Rdr) (a la le mu wr ac : Addr) (ms ws : List V) : Prop where
  top : H a = some (.tup [.ref la, .int 0, .ref le, .ref mu, .ref wr, .ref ac])
  lab : H la = some (.tup [.int (R.l : Int), .int (R.c : Int), .int (R.r : Int)])
  let_ : H le = some (.tup (tabV R.l R.letters))
  mul : H mu = some (.tup ms)
  mulR : RowsAt H R.n (fun x p => H p = some (.tup (tabV R.n (R.mul x)))) ms
  wrap : H wr = some (.tup ws)
  wrapR : RowsAt H R.c (fun a p => ∃ us, H p = some (.tup us) ∧ RowsAt H R.r (fun b q => H q = some (.tup (tabV R.n (R.wrap a b)))) us) ws
  acc : H ac = some (.tup (R.acc.map fun v : Nat => V.int (v : Int)))
theorem RdIn.same {H H' : Hp} (e : Same H H') {R : Rdr} {a la le mu wr ac : Addr} {ms ws : List V} (h : RdIn H R a la le mu wr ac ms ws) : RdIn H' R a la le mu wr ac ms ws := by
  refine ⟨e _ _ h.top, e _ _ h.lab, e _ _ h.let_, e _ _ h.mul, ⟨h.mulR.1, fun x hx => ?_⟩, e _ _ h.wrap, ⟨h.wrapR.1, fun x hx => ?_⟩, e _ _ h.acc⟩
  · obtain ⟨p, h1, h2⟩ := h.mulR.2 x hx
    exact ⟨p, h1, e _ _ h2⟩
  · obtain ⟨p, h1, us, h2, h3, h4⟩ := h.wrapR.2 x hx
    refine ⟨p, h1, us, e _ _ h2, h3, fun y hy => ?_⟩
    obtain ⟨q, h5, h6⟩ := h4 y hy
    exact ⟨q, h5, e _ _ h6⟩
def RdAt (H : Hp) (R : Rdr) (v : V) : Prop := ∃ a la le mu wr ac ms ws, v = .ref a ∧ RdIn H R a la le mu wr ac ms ws
theorem RdAt.same {H H' : Hp} (e : Same H H') {R : Rdr} {v : V} (h : RdAt H R v) : RdAt H' R v := by
  obtain ⟨a, la, le, mu, wr, ac, ms, ws, e1, r⟩ := h
  exact ⟨a, la, le, mu, wr, ac, ms, ws, e1, r.same e⟩
section
variable {K : PySem.W.Frag} {σ : St} {H : Hp} {ta tb tc td te : TE} {v : V} {R : Rdr} {a la le mu wr ac : Addr} {ms ws : List V}
theorem evv_ix {p : Addr} {xs : List V} {j : Nat} (h : H p = some (.tup xs)) (ha : EvV ta σ H (.ref p)) (hb : EvV tb σ H (.int (j : Int))) (e : xs[j]? = some v) : EvV (tOp (rIxT K) ta tb) σ H v := fun H1 e1 Q q =>
  ha H1 e1 _ (hb H1 e1 _ ⟨p, xs, j, v, rfl, rfl, sqt (e1 _ _ h), atI_nat e, q⟩)
theorem evv_let (h : RdIn H R a la le mu wr ac ms ws) {x : Nat} (ha : EvV ta σ H (.ref le)) (hb : EvV tb σ H (.int (x : Int))) (hx : x < R.l) : EvV (tOp (rIxT K) ta tb) σ H (.int ((R.letters x : Nat) : Int)) :=
  evv_ix h.let_ ha hb (tabV_get _ hx)
theorem evv_mul (h : RdIn H R a la le mu wr ac ms ws) {x y : Nat} (ha : EvV ta σ H (.ref mu)) (hb : EvV tb σ H (.int (x : Int))) (hc : EvV tc σ H (.int (y : Int))) (hx : x < R.n) (hy : y < R.n) :
    EvV (tOp (rIxT K) (tOp (rIxT K) ta tb) tc) σ H (.int ((R.mul x y : Nat) : Int)) := by
  obtain ⟨p, h1, h2⟩ := h.mulR.2 x hx
  exact evv_ix h2 (evv_ix h.mul ha hb h1) hc (tabV_get _ hy)
theorem evv_wrap (h : RdIn H R a la le mu wr ac ms ws) {x y z : Nat} (ha : EvV ta σ H (.ref wr)) (hb : EvV tb σ H (.int (x : Int))) (hc : EvV tc σ H (.int (y : Int))) (hd : EvV td σ H (.int (z : Int))) (hx : x < R.c) (hy : y < R.r) (hz : z < R.n) :
    EvV (tOp (rIxT K) (tOp (rIxT K) (tOp (rIxT K) ta tb) tc) td) σ H (.int ((R.wrap x y z : Nat) : Int)) := by
  obtain ⟨p, h1, us, h2, _, h4⟩ := h.wrapR.2 x hx
  obtain ⟨q, h5, h6⟩ := h4 y hy
  exact evv_ix h6 (evv_ix h2 (evv_ix h.wrap ha hb h1) hc h5) hd (tabV_get _ hz)
theorem evv_add {i j : Nat} (ha : EvV ta σ H (.int (i : Int))) (hb : EvV tb σ H (.int (j : Int))) : EvV (tOp (rI0 fun i j => .int (i + j)) ta tb) σ H (.int ((i + j : Nat) : Int)) := fun H1 e1 Q q =>
  ha H1 e1 _ (hb H1 e1 _ ⟨_, _, rfl, rfl, by rw [Int.natCast_add] at q; exact q⟩)
theorem evv_lenT {p : Addr} {xs : List V} (h : H p = some (.tup xs)) (ha : EvV ta σ H (.ref p)) : EvV (tCB (tLenS K) (tCons ta tNil)) σ H (.int (xs.length : Int)) := fun H1 e1 Q q =>
  ha H1 e1 _ ⟨p, xs, rfl, .inr (sqt (e1 _ _ h)), q⟩
theorem evv_lenL {p : Addr} {xs : List V} (h : H p = some (.lst xs)) (ha : EvV ta σ H (.ref p)) : EvV (tCB (tLenS K) (tCons ta tNil)) σ H (.int (xs.length : Int)) := fun H1 e1 Q q =>
  ha H1 e1 _ ⟨p, xs, rfl, .inl (sql (e1 _ _ h)), q⟩
theorem evv_is {u : V} (h : EvV te σ H v) (e : v = u) : EvV te σ H u := e ▸ h
end
/-! ### lists of parts, made on the way -/
/-- a new list of parts -/
def EvLs (te : TE) (σ : St) (H : Hp) (ps : List Part) : Prop := ∀ H1, Same H H1 → ∀ Q : VK, (∀ D xs H2, H1 D = none → Same H1 H2 → H2 D = some (.lst xs) → Reps H2 ps xs → Q (.ref D) H2) → te σ H1 Q
theorem EvLs.mono {te : TE} {σ : St} {H H' : Hp} {ps : List Part} (h : EvLs te σ H ps) (e : Same H H') : EvLs te σ H' ps := fun H1 e1 => h H1 (e.trans e1)
/-- a list that is being made: l is new, all else as it was -/
def LP (H0 H : Hp) (l : Addr) (ps : List Part) : Prop := H0 l = none ∧ Same H0 H ∧ ∃ xs, H l = some (.lst xs) ∧ Reps H ps xs
theorem LP.same {H0 H H1 : Hp} {l : Addr} {ps : List Part} (h : LP H0 H l ps) (e : Same H H1) : LP H0 H1 l ps := by
  obtain ⟨h1, h2, xs, h3, h4⟩ := h
  exact ⟨h1, h2.trans e, xs, e _ _ h3, h4.same e⟩
theorem LP.app {H0 H1 : Hp} {l : Addr} {ps : List Part} {p : Part} {v : V} {xs : List V} (h1 : H0 l = none) (h2 : Same H0 H1) (h3 : H1 l = some (.lst xs)) (h4 : Reps H1 ps xs) (r : Rep H1 p v) : LP H0 (upd H1 l (.lst (xs ++ [v]))) l (ps ++ [p]) :=
  ⟨h1, same_mut h2 h1, _, upd_same, (h4.snoc r).tp (tp_lst h3)⟩
section
variable {K : PySem.W.Frag} {σ : St} {H : Hp} {tn te : TE}
theorem els_range {n j : Nat} {vs : List Nat} {f : Nat → Part} (hn : EvV tn σ H (.int (n : Int))) (hz : n ≤ 1000) (hw : ∀ x, wipe ((wipe σ vs).set j (some x)) vs = wipe σ vs)
    (he : ∀ i H1, i < n → Same H H1 → EvR te ((wipe σ vs).set j (some (.int (i : Int)))) H1 (f i)) : EvLs (tLc (iRng1 (tCons tn tNil)) (gName j) tYes te vs) σ H ((List.range n).map f) := fun H1 e1 Q q =>
  hn H1 e1 _ ⟨(n : Int), rfl, by omega, by omega, fun D hD => lc_it (n := n) (by rw [Int.toNat_natCast]; exact walk_range) (fun i H' => i ≤ n ∧ LP H1 H' D ((List.range i).map f))
    ⟨Nat.zero_le _, hD, same_new hD, [], upd_same, .nil⟩ (fun _ _ _ _ => trivial) (fun i x H2 H3 hi hP hy => by
      obtain ⟨rfl, rfl⟩ := hy
      obtain ⟨_, h1, h2, xs, h3, h4⟩ := hP
      refine ⟨hw _, ?_⟩
      show te ((wipe σ vs).set j (some (.int (0 + (i : Int))))) H3 _
      rw [Int.zero_add]
      refine he i H3 hi (e1.trans h2) H3 (Same.refl _) _ fun v H4 e4 r4 => ⟨xs, e4 _ _ h3, szlt ?_, hi, ?_⟩
      · rw [← h4.len, List.length_map, List.length_range]
        omega
      · rw [List.range_succ, List.map_append]
        exact LP.app h1 (h2.trans e4) (e4 _ _ h3) (h4.same e4) r4) (fun H' hP => by
      obtain ⟨_, h1, h2, xs, h3, h4⟩ := hP
      exact q D xs H' h1 h2 h3 h4)⟩
theorem els_ints {a : Addr} {ns : List Nat} {j : Nat} {vs : List Nat} {f : Nat → Part} (ht : H a = some (.tup (ns.map fun v : Nat => V.int (v : Int)))) (hn : EvV tn σ H (.ref a)) (hz : ns.length ≤ 1000) (hw : ∀ x, wipe ((wipe σ vs).set j (some x)) vs = wipe σ vs)
    (he : ∀ (i : Nat) H1, Same H H1 → EvR te ((wipe σ vs).set j (some (.int (i : Int)))) H1 (f i)) : EvLs (tLc (iTup K tn) (gName j) tYes te vs) σ H (ns.map f) := fun H1 e1 Q q =>
  hn H1 e1 _ ⟨a, rfl, ⟨_, sqt (e1 _ _ ht)⟩, fun D hD => lc_it (walk_tup (K := K) (a := a) (xs := ns.map fun v : Nat => V.int (v : Int))) (fun i H' => LP H1 H' D ((ns.take i).map f))
    ⟨hD, same_new hD, [], upd_same, .nil⟩ (fun i H' _ hP => sqt (hP.2.1 _ _ (e1 _ _ ht))) (fun i x H2 H3 hi hP hy => by
      obtain ⟨rfl, hx⟩ := hy
      obtain ⟨h1, h2, xs, h3, h4⟩ := hP
      rw [List.getElem?_map] at hx
      obtain ⟨v, hv, rfl⟩ := Option.map_eq_some_iff.mp hx
      refine ⟨hw _, ?_⟩
      refine he v H3 (e1.trans h2) H3 (Same.refl _) _ fun v' H4 e4 r4 => ⟨xs, e4 _ _ h3, szlt ?_, ?_⟩
      · rw [← h4.len, List.length_map, List.length_take]
        omega
      · rw [List.take_add_one, hv, List.map_append]
        exact LP.app h1 (h2.trans e4) (e4 _ _ h3) (h4.same e4) r4) (fun H' hP => by
      obtain ⟨h1, h2, xs, h3, h4⟩ := hP
      rw [List.length_map, List.take_length] at h4
      exact q D xs H' h1 h2 h3 h4)⟩
/-- one part after another, then a list of them is handed on -/
theorem evr_every {ta : TE} {ps : List Part} (h : EvLs ta σ H ps) : EvR (tCall (spEvery K) [] E0 (tCons ta tNil)) σ H (everyP ps) := fun H1 e1 Q q =>
  h H1 e1 _ fun D xs H2 n2 e2 h2 r2 => ⟨D, xs, ps, rfl, sql h2, r2, fun v H3 e3 r3 => q v H3 (e2.trans e3) r3⟩
theorem evr_some {ta : TE} {ps : List Part} (h : EvLs ta σ H ps) : EvR (tCall (spSome K) [] E0 (tCons ta tNil)) σ H (someP ps) := fun H1 e1 Q q =>
  h H1 e1 _ fun D xs H2 n2 e2 h2 r2 => ⟨D, xs, ps, rfl, sql h2, r2, fun v H3 e3 r3 => q v H3 (e2.trans e3) r3⟩
/-- a list at a name -/
theorem els_var {i : Nat} {l : Addr} {ps : List Part} {xs : List V} (hi : σ[i]? = some (some (.ref l))) (hl : H l = some (.lst xs)) (hr : Reps H ps xs) : EvR (tCall (spEvery K) [] E0 (tCons (tVar i) tNil)) σ H (everyP ps) := fun H1 e1 Q q =>
  ⟨_, hi, l, xs, ps, rfl, sql (e1 _ _ hl), hr.same e1, q⟩
/-- x = [..], something behind -/
theorem q_setLs {i : Nat} {u : TS} {D : Ends} {ps : List Part} (h : EvLs te σ H ps) (k : ∀ l H1, LP H H1 l ps → u D (σ.set i (some (.ref l))) H1) : tSeq (tAsg te (gName i)) u D σ H :=
  h H (Same.refl _) _ fun l xs H2 n2 e2 h2 r2 => k l H2 ⟨n2, e2, xs, h2, r2⟩
/-- x += [..] -/
theorem q_ext {i : Nat} {u : TS} {D : Ends} {H0 : Hp} {l : Addr} {ps qs : List Part} (hi : σ[i]? = some (some (.ref l))) (hl : LP H0 H l ps) (hz : ps.length + qs.length ≤ 1000) (h : EvLs te σ H qs) (k : ∀ H1, LP H0 H1 l (ps ++ qs) → u D (σ.set i (some (.ref l))) H1) :
    tSeq (tAug i te rExt2) u D σ H := by
  obtain ⟨h1, h2, xs, h3, h4⟩ := hl
  refine ⟨_, hi, h H (Same.refl _) _ fun D' zs H2 n2 e2 h5 r2 => ⟨l, D', xs, zs, rfl, rfl, e2 _ _ h3, h5, sz ?_, ?_⟩⟩
  · rw [← h4.len, ← r2.len]
    omega
  · refine k _ ⟨h1, same_mut (h2.trans e2) h1, _, upd_same, ?_⟩
    exact (Reps.app (h4.same e2) r2).tp (tp_lst (e2 _ _ h3))
/-- x.append(e) -/
theorem q_app {i : Nat} {u : TS} {D : Ends} {H0 : Hp} {l : Addr} {ps : List Part} {p : Part} (hi : σ[i]? = some (some (.ref l))) (hl : LP H0 H l ps) (hz : ps.length ≤ 1000) (h : EvR te σ H p) (k : ∀ H1, LP H0 H1 l (ps ++ [p]) → u D σ H1) :
    tSeq (tDrop (tBM K "list" rAppend (tVar i) (tCons te tNil))) u D σ H := by
  obtain ⟨h1, h2, xs, h3, h4⟩ := hl
  refine ⟨_, hi, .inl ⟨rfl, _, sql h3⟩, h H (Same.refl _) _ fun v H2 e2 r2 => ⟨l, xs, v, rfl, rfl, e2 _ _ h3, szlt ?_, ?_⟩⟩
  · rw [← h4.len]
    omega
  · exact k _ (LP.app h1 (h2.trans e2) (e2 _ _ h3) (h4.same e2) r2)
theorem l_app {i : Nat} {D : Ends} {H0 : Hp} {l : Addr} {ps : List Part} {p : Part} (hi : σ[i]? = some (some (.ref l))) (hl : LP H0 H l ps) (hz : ps.length ≤ 1000) (h : EvR te σ H p) (k : ∀ H1, LP H0 H1 l (ps ++ [p]) → D.nx σ H1) :
    tDrop (tBM K "list" rAppend (tVar i) (tCons te tNil)) D σ H := q_app (u := tNext) hi hl hz h k
end
/-! ### behind -/
def spBehind : Sp := fun vs H Q _ => ∃ v R u, vs = [v, .int ((u : Nat) : Int)] ∧ RdAt H R v ∧ Rdr.Ok R ∧ u < R.n ∧ RetP (behindP R u) H Q
theorem evr_behind {σ : St} {H : Hp} {ta tb : TE} {v : V} {R : Rdr} {u : Nat} (hv : RdAt H R v) (O : R.Ok) (hu : u < R.n) (ha : EvV ta σ H v) (hb : EvV tb σ H (.int (u : Int))) : EvR (tCall spBehind [] E0 (tCons ta (tCons tb tNil))) σ H (behindP R u) := fun H1 e1 Q q =>
  ha H1 e1 _ (hb H1 e1 _ ⟨v, R, u, rfl, hv.same e1, O, hu, q⟩)
section
variable {P : Program} {w : World} {K : PySem.W.Frag} {mg : Str → Option Value} {base : Heap}
abbrev nBehind : List Str := ["reader", "u", "labels", "_", "letters", "mul", "parts", "a", "b"]
theorem scBehind : FnScope nBehind ["reader", "u"] (defScope sBehind) := ⟨rfl, rfl, rfl, by decide +kernel, rfl, by decide +kernel, by decide +kernel⟩
theorem ok_behind (F : DefAt K mg "behind" sBehind) (GI : Dn P w K mg base "if_then" 1 ["first", "second"] spIf) (GE : Dn P w K mg base "every" 2 ["parts"] (spEvery K)) (mR : mg "range" = none) (mL : mg "len" = none) :
    Dn P w K mg base "behind" 3 ["reader", "u"] spBehind := by
  refine dn_mk F scBehind (fun _ _ _ _ _ _ us hl => match us, hl with | [_, _], _ => rfl) (fun vs H Q E h => ?_) (fun f cdv A outer s H vs Q E hr h => ?_)
  · obtain ⟨v, R, u, rfl, _⟩ := h
    rfl
  · obtain ⟨v, R, u, rfl, ⟨a, la, le, mu, wr, ac, ms, ws, rfl, rd⟩, O, hu, k⟩ := h
    have hr1 : Room 1 _ := hr.mono (by decide)
    refine ⟨_, pss_cons (ps_asg (pv 0) (pg_tup rfl (pgs_cons (pg_name (i := 2) scBehind.nd rfl (.inl rfl)) (pgs_cons (pg_name (i := 3) scBehind.nd rfl (.inl rfl)) (pgs_cons (pg_name (i := 4) scBehind.nd rfl (.inr rfl))
        (pgs_cons (pg_name (i := 5) scBehind.nd rfl (.inr rfl)) (pgs_cons (pg_name (i := 3) scBehind.nd rfl (.inl rfl)) (pgs_cons (pg_name (i := 3) scBehind.nd rfl (.inl rfl)) pgs_nil))))))))
      (pss_cons (ps_setLc (i := 6) (own := [("a", 7)]) (g := gName 7) (tt := tYes) rfl scBehind.nd rfl rfl (sw_true rfl rfl rfl (by decide +kernel)) (pi_range1 rfl mR (pa_cons (pe_ix (r := rIxT K) ix_tup (pv 2) pe_int (fun _ _ => rfl)) pa_nil))
          (blkOk_by (N := nBehind) (sc := defScope sBehind) (by decide +kernel)) (fun _ _ _ _ _ => pg_name (i := 7) scBehind.nd rfl (.inl rfl)) (fun _ _ _ _ _ => pts_nil)
          (fun _ _ _ _ _ => pe_dn GI hr1 rfl (pa_cons (pe_tup (pa_cons pe_str (pa_cons (pv 7) pa_nil))) (pa_cons (pe_tup (pa_cons pe_str (pa_cons (pe_ix (r := rIxT K) ix_tup (pe_ix (r := rIxT K) ix_tup (pv 5) (pv 1) (fun _ _ => rfl)) (pe_ix (r := rIxT K) ix_tup (pv 4) (pv 7) (fun _ _ => rfl)) (fun _ _ => rfl)) pa_nil))) pa_nil))))
      (pss_cons (ps_aug (i := 6) scBehind.nd rfl (.inl rfl) (pe_lc (own := [("a", 7)]) (g := gName 7) (tt := tYes) rfl scBehind.nd (pi_range1 rfl mR (pa_cons (pe_ix (r := rIxT K) ix_tup (pv 2) pe_int (fun _ _ => rfl)) pa_nil))
          (blkOk_by (N := nBehind) (sc := defScope sBehind) (by decide +kernel)) (fun _ _ _ _ _ => pg_name (i := 7) scBehind.nd rfl (.inl rfl)) (fun _ _ _ _ _ => pts_nil)
          (fun _ _ _ _ _ => pe_dn GI hr1 rfl (pa_cons (pe_tup (pa_cons pe_str (pa_cons (pv 7) pa_nil))) (pa_cons (pe_tup (pa_cons pe_str (pa_cons (pv 1) pa_nil))) pa_nil)))) iop_ext)
      (pss_cons (ps_aug (i := 6) scBehind.nd rfl (.inl rfl) (pe_lc (own := [("b", 8)]) (g := gName 8) (tt := tYes) rfl scBehind.nd (pi_range1 rfl mR (pa_cons (pe_ix (r := rIxT K) ix_tup (pv 2) pe_int (fun _ _ => rfl)) pa_nil))
          (blkOk_by (N := nBehind) (sc := defScope sBehind) (by decide +kernel)) (fun _ _ _ _ _ => pg_name (i := 8) scBehind.nd rfl (.inl rfl)) (fun _ _ _ _ _ => pts_nil)
          (fun _ _ _ _ _ => pe_dn GI hr1 rfl (pa_cons (pe_tup (pa_cons pe_str (pa_cons (pv 8) pa_nil))) (pa_cons (pe_tup (pa_cons pe_str (pa_cons (pe_op op_add (pe_callB (r := tLenS K) call_lenS (by rfl) mL PySem.boot_len (pa_cons (pv 5) pa_nil)) (pv 1)) pa_nil))) pa_nil)))) iop_ext)
      (pss_one (ps_ret (pe_dn GE hr rfl (pa_cons (pv 6) pa_nil))))))), ?_⟩
    have l2 := O.l2; have c2 := O.c2; have r2 := O.r2
    refine ⟨_, rfl, a, _, rfl, sqt rd.top, rfl, _, _, rfl, _, _, rfl, _, _, rfl, _, _, rfl, _, _, rfl, _, _, rfl, rfl, ?_⟩
    change tSeq _ _ _ [some (.ref a), some (.int (u : Int)), some (.ref la), some (.ref ac), some (.ref le), some (.ref mu), none, none, none] H
    refine q_setLs (els_range (f := behL1 R u) (evv_ix rd.lab (evv_var (i := 2) rfl) (evv_c (v := .int ((0 : Nat) : Int))) rfl) (by omega) (fun _ => rfl) fun i H1 hi e1 =>
      evr_if (evr_leaf .letter (evv_var (i := 7) rfl)) (evr_leaf .set (evv_mul (rd.same e1) (evv_var (i := 5) rfl) (evv_var (i := 1) rfl) (evv_let (rd.same e1) (evv_var (i := 4) rfl) (evv_var (i := 7) rfl) hi) hu (O.letters _ hi)))) fun l H1 L1 => ?_
    have rd1 := rd.same L1.2.1
    change tSeq _ _ _ [some (.ref a), some (.int (u : Int)), some (.ref la), some (.ref ac), some (.ref le), some (.ref mu), some (.ref l), none, none] H1
    refine q_ext (qs := (List.range R.c).map (behL2 R u)) rfl L1 (by simp only [List.length_map, List.length_range]; omega) (els_range (evv_ix rd1.lab (evv_var (i := 2) rfl) (evv_c (v := .int ((1 : Nat) : Int))) rfl) (by omega) (fun _ => rfl) fun i H2 hi e2 =>
      evr_if (evr_leaf .call (evv_var (i := 7) rfl)) (evr_leaf .set (evv_var (i := 1) rfl))) fun H2 L2 => ?_
    have rd2 := rd.same L2.2.1
    change tSeq _ _ _ [some (.ref a), some (.int (u : Int)), some (.ref la), some (.ref ac), some (.ref le), some (.ref mu), some (.ref l), none, none] H2
    refine q_ext (qs := (List.range R.r).map (behL3 R u)) rfl L2 (by simp only [List.length_append, List.length_map, List.length_range]; omega) (els_range (evv_ix rd2.lab (evv_var (i := 2) rfl) (evv_c (v := .int ((2 : Nat) : Int))) rfl) (by omega) (fun _ => rfl) fun i H3 hi e3 =>
      evr_if (evr_leaf .ret (evv_var (i := 8) rfl)) (evr_leaf .set (evv_add (evv_is (evv_lenT (rd2.same e3).mul (evv_var (i := 5) rfl)) (by rw [(rd2.same e3).mulR.1])) (evv_var (i := 1) rfl)))) fun H3 L3 => ?_
    obtain ⟨_, s3, xs, h3, r3⟩ := L3
    exact els_var (i := 6) rfl h3 r3 H3 (Same.refl _) Q fun v H4 e4 r4 => k v H4 (s3.trans e4) r4
end
end Arc


namespace Arc
open PySem PySem.Spec PyProof.Rows L2
/-! ### loops over a range -/
section
variable {K : PySem.W.Frag} {σ : St} {H : Hp} {tn te : TE} {tb u : TS} {D : Ends}
theorem l_rng {n j : Nat} (hn : EvV tn σ H (.int (n : Int))) (hz : n ≤ 1000000) (Pv : Nat → St → Hp → Prop) (h0 : Pv 0 σ H)
    (hs : ∀ i σ' H', i < n → Pv i σ' H' → tb { D with nx := Pv (i + 1), ct := Pv (i + 1), bk := D.nx } (σ'.set j (some (.int (i : Int)))) H') (hd : ∀ σ' H', Pv n σ' H' → D.nx σ' H') :
    tFor (iRng1 (tCons tn tNil)) (gName j) tb D σ H :=
  hn H (Same.refl _) _ ⟨(n : Int), rfl, by omega, by omega, for_it (n := n) (by rw [Int.toNat_natCast]; exact walk_range) Pv h0 (fun _ _ _ _ _ => trivial) (fun i x σ' H1 H' hi hP hy => by
    obtain ⟨rfl, rfl⟩ := hy
    have q := hs i σ' H' hi hP
    rw [← Int.zero_add (i : Int)] at q
    exact q) hd⟩
theorem q_rng {n j : Nat} (hn : EvV tn σ H (.int (n : Int))) (hz : n ≤ 1000000) (Pv : Nat → St → Hp → Prop) (h0 : Pv 0 σ H)
    (hs : ∀ i σ' H', i < n → Pv i σ' H' → tb { D with nx := Pv (i + 1), ct := Pv (i + 1), bk := u D } (σ'.set j (some (.int (i : Int)))) H') (hd : ∀ σ' H', Pv n σ' H' → u D σ' H') :
    tSeq (tFor (iRng1 (tCons tn tNil)) (gName j) tb) u D σ H := l_rng (D := { D with nx := u D }) hn hz Pv h0 hs hd
theorem flat_succ {α : Type} (n : Nat) (f : Nat → List α) : (List.range (n + 1)).flatMap f = (List.range n).flatMap f ++ f n := by
  rw [List.range_succ, List.flatMap_append]
  simp
theorem q_setV {i : Nat} {v : V} (h : EvV te σ H v) (k : u D (σ.set i (some v)) H) : tSeq (tAsg te (gName i)) u D σ H := h H (Same.refl _) _ k
theorem LP.new {l : Addr} (h : H l = none) : LP H (upd H l (.lst [])) l [] := ⟨h, same_new h, [], upd_same, .nil⟩
theorem q_new {i : Nat} (k : ∀ l H1, LP H H1 l [] → u D (σ.set i (some (.ref l))) H1) : tSeq (tAsg (tLst tNil) (gName i)) u D σ H :=
  ⟨Nat.zero_le _, fun l hl => k l _ (LP.new hl)⟩
end
/-! ### arch_part -/
def spArch : Sp := fun vs H Q _ => ∃ v R u a, vs = [v, .int ((u : Nat) : Int), .int ((a : Nat) : Int)] ∧ RdAt H R v ∧ Rdr.Ok R ∧ u < R.n ∧ a < R.c ∧ RetP (archP R u a) H Q
theorem evr_arch {σ : St} {H : Hp} {ta tb tc : TE} {v : V} {R : Rdr} {u a : Nat} (hv : RdAt H R v) (O : R.Ok) (hu : u < R.n) (hc : a < R.c) (h1 : EvV ta σ H v) (h2 : EvV tb σ H (.int (u : Int))) (h3 : EvV tc σ H (.int (a : Int))) :
    EvR (tCall spArch [] E0 (tCons ta (tCons tb (tCons tc tNil)))) σ H (archP R u a) := fun H1 e1 Q q =>
  h1 H1 e1 _ (h2 H1 e1 _ (h3 H1 e1 _ ⟨v, R, u, a, rfl, hv.same e1, O, hu, hc, q⟩))
section
variable {P : Program} {w : World} {K : PySem.W.Frag} {mg : Str → Option Value} {base : Heap}
abbrev nArch : List Str := ["reader", "u", "a", "mul", "wrap", "count", "parts", "b", "i", "inside"]
theorem scArch : FnScope nArch ["reader", "u", "a"] (defScope sArch) := ⟨rfl, rfl, rfl, by decide +kernel, rfl, by decide +kernel, by decide +kernel⟩
theorem ok_arch (F : DefAt K mg "arch_part" sArch) (GI : Dn P w K mg base "if_then" 1 ["first", "second"] spIf) (GE : Dn P w K mg base "every" 2 ["parts"] (spEvery K)) (T : Tx mg) :
    Dn P w K mg base "arch_part" 3 ["reader", "u", "a"] spArch := by
  refine dn_mk F scArch (fun _ _ _ _ _ _ us hl => match us, hl with | [_, _, _], _ => rfl) (fun vs H Q E h => ?_) (fun f cdv A outer s H vs Q E hr h => ?_)
  · obtain ⟨v, R, u, a, rfl, _⟩ := h
    rfl
  · obtain ⟨v, R, u, ca, rfl, ⟨a, la, le, mu, wr, ac, ms, ws, rfl, rd⟩, O, hu, hca, k⟩ := h
    have hr1 : Room 1 _ := hr.mono (by decide)
    refine ⟨_, (pss_cons (ps_par (i := 3) (j := 4) rfl scArch.nd rfl rfl (by decide) rfl rfl (pa_cons (pe_ix (r := rIxT K) ix_tup (pv 0) pe_int (fun _ _ => rfl)) (pa_cons (pe_ix (r := rIxT K) ix_tup (pv 0) pe_int (fun _ _ => rfl)) pa_nil)) (by rfl))
      (pss_cons (ps_set (i := 5) scArch.nd rfl (.inl rfl) (pe_callB (r := tLenS K) call_lenS (by rfl) T.len PySem.boot_len (pa_cons (pv 3) pa_nil)))
      (pss_cons (ps_set (i := 6) scArch.nd rfl (.inl rfl) (pe_lst pa_nil))
      (pss_cons (ps_for PassesOwn.never rfl (pi_range1 rfl T.range (pa_cons (pe_ix (r := rIxT K) ix_tup (pe_ix (r := rIxT K) ix_tup (pv 0) pe_int (fun _ _ => rfl)) pe_int (fun _ _ => rfl)) pa_nil)) (pg_name (i := 7) scArch.nd rfl (.inl rfl))
        (pss_one (ps_for PassesOwn.never rfl (pi_range1 rfl T.range (pa_cons (pv 5) pa_nil)) (pg_name (i := 8) scArch.nd rfl (.inl rfl))
          (pss_cons (ps_set (i := 9) scArch.nd rfl (.inl rfl) (pe_tup (pa_cons pe_str (pa_cons (pe_tup (pa_cons pe_str (pa_cons (pv 7) pa_nil))) (pa_cons (pe_tup (pa_cons pe_str (pa_cons (pe_op op_add (pv 5) (pv 8)) pa_nil))) pa_nil)))))
          (pss_one (ps_expr (pe_bm PySem.F.plainAttrs_list PySem.F.slot_list_append PySem.F.type_list_append mt_append (pv 6) (pa_cons (pe_dn GI (hr.mono (by decide)) rfl (pa_cons (pv 9) (pa_cons (pe_tup (pa_cons pe_str (pa_cons (pe_ix (r := rIxT K) ix_tup (pe_ix (r := rIxT K) ix_tup (pv 3) (pv 1) (fun _ _ => rfl)) (pe_ix (r := rIxT K) ix_tup (pe_ix (r := rIxT K) ix_tup (pe_ix (r := rIxT K) ix_tup (pv 4) (pv 2) (fun _ _ => rfl)) (pv 7) (fun _ _ => rfl)) (pv 8) (fun _ _ => rfl)) (fun _ _ => rfl)) pa_nil))) pa_nil))) pa_nil))))))))
      (pss_one (ps_ret (pe_tup (pa_cons pe_str (pa_cons (pe_tup (pa_cons pe_str (pa_cons (pe_tup (pa_cons pe_str (pa_cons (pv 2) pa_nil))) (pa_cons (pe_tup (pa_cons pe_str (pa_cons (pv 1) pa_nil))) pa_nil)))) (pa_cons (pe_dn GE hr rfl (pa_cons (pv 6) pa_nil)) pa_nil)))))))))), ?_⟩
    have r2 := O.r2; have n3 := O.n3
    have rr : RdAt H R (.ref a) := ⟨a, la, le, mu, wr, ac, ms, ws, rfl, rd⟩
    refine evv_ix rd.top (evv_var (i := 0) rfl) (evv_c (v := .int ((3 : Nat) : Int))) rfl H (Same.refl _) _ (evv_ix rd.top (evv_var (i := 0) rfl) (evv_c (v := .int ((4 : Nat) : Int))) rfl H (Same.refl _) _ ⟨_, _, rfl, ?_⟩)
    change tSeq _ _ _ [some (.ref a), some (.int (u : Int)), some (.int (ca : Int)), some (.ref mu), some (.ref wr), none, none, none, none, none] H
    refine q_setV (evv_is (evv_lenT rd.mul (evv_var (i := 3) rfl)) (by rw [rd.mulR.1])) ?_
    change tSeq _ _ _ [some (.ref a), some (.int (u : Int)), some (.int (ca : Int)), some (.ref mu), some (.ref wr), some (.int (R.n : Int)), none, none, none, none] H
    refine q_new fun l H1 L1 => ?_
    change tSeq _ _ _ [some (.ref a), some (.int (u : Int)), some (.int (ca : Int)), some (.ref mu), some (.ref wr), some (.int (R.n : Int)), some (.ref l), none, none, none] H1
    have rd1 := rd.same L1.2.1
    refine q_rng (n := R.r) (evv_ix rd1.lab (evv_ix rd1.top (evv_var (i := 0) rfl) (evv_c (v := .int ((0 : Nat) : Int))) rfl) (evv_c (v := .int ((2 : Nat) : Int))) rfl) (by omega)
      (fun b σ H' => b ≤ R.r ∧ ∃ x y z, σ = [some (.ref a), some (.int (u : Int)), some (.int (ca : Int)), some (.ref mu), some (.ref wr), some (.int (R.n : Int)), some (.ref l), x, y, z] ∧ LP H H' l ((List.range b).flatMap fun b => (List.range R.n).map fun i => arch1 R u ca b i))
      ⟨Nat.zero_le _, none, none, none, rfl, L1⟩ ?_ ?_
    · rintro b σ H2 hb ⟨_, x, y, z, rfl, L2⟩
      change tFor _ _ _ _ [some (.ref a), some (.int (u : Int)), some (.int (ca : Int)), some (.ref mu), some (.ref wr), some (.int (R.n : Int)), some (.ref l), some (.int (b : Int)), y, z] H2
      refine l_rng (n := R.n) (evv_var (i := 5) rfl) (by omega)
        (fun i σ H' => i ≤ R.n ∧ ∃ y z, σ = [some (.ref a), some (.int (u : Int)), some (.int (ca : Int)), some (.ref mu), some (.ref wr), some (.int (R.n : Int)), some (.ref l), some (.int (b : Int)), y, z] ∧
          LP H H' l (((List.range b).flatMap fun b => (List.range R.n).map fun i => arch1 R u ca b i) ++ (List.range i).map fun i => arch1 R u ca b i))
        ⟨Nat.zero_le _, y, z, rfl, by simpa using L2⟩ ?_ ?_
      · rintro i σ H3 hi ⟨_, y, z, rfl, L3⟩
        change tSeq _ _ _ [some (.ref a), some (.int (u : Int)), some (.int (ca : Int)), some (.ref mu), some (.ref wr), some (.int (R.n : Int)), some (.ref l), some (.int (b : Int)), some (.int (i : Int)), z] H3
        have rd3 := rd.same L3.2.1
        refine q_set (p := andP (.leaf .ret b) (setP (R.n + i))) (evr_bi .and (evr_leaf .ret (evv_var (i := 7) rfl)) (evr_leaf .set (evv_add (evv_var (i := 5) rfl) (evv_var (i := 8) rfl)))) fun v H4 e4 r4 => ?_
        change tDrop _ _ [some (.ref a), some (.int (u : Int)), some (.int (ca : Int)), some (.ref mu), some (.ref wr), some (.int (R.n : Int)), some (.ref l), some (.int (b : Int)), some (.int (i : Int)), some v] H4
        have rd4 := rd3.same e4
        refine l_app rfl (L3.same e4) ?_ (evr_if (evr_var (i := 9) rfl r4) (evr_leaf .set (evv_mul rd4 (evv_var (i := 3) rfl) (evv_var (i := 1) rfl) (evv_wrap rd4 (evv_var (i := 4) rfl) (evv_var (i := 2) rfl) (evv_var (i := 7) rfl) (evv_var (i := 8) rfl) hca hb hi) hu (O.wrap _ _ _ hca hb hi)))) fun H5 L5 => ?_
        · rw [List.length_append, len_flat, List.length_map, List.length_range]
          have := mul_le (show b ≤ 2 by omega) n3
          omega
        · refine ⟨hi, some (.int (i : Int)), some v, rfl, ?_⟩
          rw [List.range_succ, List.map_append, ← List.append_assoc]
          exact L5
      · rintro σ H3 ⟨_, y, z, rfl, L3⟩
        refine ⟨hb, some (.int (b : Int)), y, z, rfl, ?_⟩
        rw [flat_succ]
        exact L3
    · rintro σ H2 ⟨_, x, y, z, rfl, L2⟩
      obtain ⟨_, s2, xs, h2, r2'⟩ := L2
      exact evr_bi .arch (evr_bi .and (evr_leaf .call (evv_var (i := 2) rfl)) (evr_leaf .set (evv_var (i := 1) rfl))) (els_var (i := 6) rfl h2 r2') H2 (Same.refl _) Q fun v H4 e4 r4 => k v H4 (s2.trans e4) r4
end
end Arc


namespace Arc
open PySem PySem.Spec PyProof.Rows L2
section
variable {K : PySem.W.Frag} {σ : St} {H : Hp} {tn tm te : TE} {tb u : TS} {D : Ends}
theorem tyes {X : Bool → Hp → Prop} (h : X true H) : tYes σ H X := h
/-- [e for x in range(n) for y in range(m)] -/
theorem els_range2 {n m j j1 : Nat} {vs vs1 : List Nat} {f : Nat → Nat → Part} (hn : EvV tn σ H (.int (n : Int))) (hz : n ≤ 100) (hz1 : m ≤ 100) (hw : ∀ x, wipe ((wipe σ vs).set j (some x)) vs = wipe σ vs)
    (hm : ∀ (i : Nat) H1, Same H H1 → EvV tm ((wipe σ vs).set j (some (.int (i : Int)))) H1 (.int (m : Int)))
    (hw1 : ∀ x y, wipe ((wipe ((wipe σ vs).set j (some x)) vs1).set j1 (some y)) vs1 = wipe ((wipe σ vs).set j (some x)) vs1)
    (he : ∀ (i k : Nat) H1, i < n → k < m → Same H H1 → EvR te ((wipe ((wipe σ vs).set j (some (.int (i : Int)))) vs1).set j1 (some (.int (k : Int)))) H1 (f i k)) :
    EvLs (tLc2 (iRng1 (tCons tn tNil)) (gName j) tYes (iRng1 (tCons tm tNil)) (gName j1) tYes te vs vs1) σ H ((List.range n).flatMap fun i => (List.range m).map (f i)) := fun H1 e1 Q q =>
  hn H1 e1 _ ⟨(n : Int), rfl, by omega, by omega, fun D hD => ⟨fun i mm H' => mm = n - i ∧ i ≤ n ∧ LP H1 H' D ((List.range i).flatMap fun i => (List.range m).map (f i)),
    ⟨n, by omega, Nat.zero_le _, hD, same_new hD, [], upd_same, .nil⟩, fun i mm H2 ⟨em, hi, L⟩ => by
      by_cases hlt : i < n
      · refine .inr ⟨by rw [Int.toNat_natCast]; exact hlt, fun H' => LP H1 H' D ((List.range (i + 1)).flatMap fun i => (List.range m).map (f i)), fun H' L' => ⟨n - (i + 1), by omega, rfl, hlt, L'⟩, fun x H' hy => ?_⟩
        obtain ⟨rfl, rfl⟩ := hy
        refine ⟨hw _, tyes ?_⟩
        rw [if_pos rfl, Int.zero_add]
        refine hm i H' (e1.trans L.2.1) H' (Same.refl _) _ ⟨(m : Int), rfl, by omega, by omega, fun k mm H' => mm = m - k ∧ k ≤ m ∧ LP H1 H' D (((List.range i).flatMap fun i => (List.range m).map (f i)) ++ (List.range k).map (f i)),
          ⟨m, by omega, Nat.zero_le _, by simpa using L⟩, fun k mm H3 ⟨em', hk, L3⟩ => ?_⟩
        by_cases hlt' : k < m
        · refine .inr ⟨by rw [Int.toNat_natCast]; exact hlt', fun H' => LP H1 H' D (((List.range i).flatMap fun i => (List.range m).map (f i)) ++ (List.range (k + 1)).map (f i)), fun H' L' => ⟨m - (k + 1), by omega, rfl, hlt', L'⟩, fun x H' hy => ?_⟩
          obtain ⟨rfl, rfl⟩ := hy
          refine ⟨hw1 _ _, ?_⟩
          show te ((wipe ((wipe σ vs).set j (some (.int (i : Int)))) vs1).set j1 (some (.int (0 + (k : Int))))) H' _
          rw [Int.zero_add]
          obtain ⟨h1, h2, xs, h3, h4⟩ := L3
          refine he i k H' hlt hlt' (e1.trans h2) H' (Same.refl _) _ fun v H4 e4 r4 => ⟨xs, e4 _ _ h3, szlt ?_, ?_⟩
          · rw [← h4.len, List.length_append, len_flat, List.length_map, List.length_range]
            have := mul_le (show i ≤ 100 by omega) hz1
            omega
          · have q2 := LP.app h1 (h2.trans e4) (e4 _ _ h3) (h4.same e4) r4
            rw [List.append_assoc] at q2
            rw [List.range_succ, List.map_append]
            exact q2
        · have ek : k = m := by omega
          subst ek
          refine .inl ⟨by rw [Int.toNat_natCast]; exact Nat.le_refl _, ?_⟩
          rw [flat_succ]
          exact L3
      · have ei : i = n := by omega
        subst ei
        obtain ⟨h1, h2, xs, h3, h4⟩ := L
        exact .inl ⟨by rw [Int.toNat_natCast]; exact Nat.le_refl _, q D xs H2 h1 h2 h3 h4⟩⟩⟩
theorem q_new1 {i : Nat} {p : Part} (h : EvR te σ H p) (k : ∀ l H1, LP H H1 l [p] → u D (σ.set i (some (.ref l))) H1) : tSeq (tAsg (tLst (tCons te tNil)) (gName i)) u D σ H :=
  h H (Same.refl _) _ fun v H1 e1 r1 => ⟨by show 1 ≤ sizeLine; decide, fun l hl => k l _ ⟨e1.free hl, e1.trans (same_new hl), [v], upd_same, .cons (r1.tp (tp_new hl)) .nil⟩⟩
end
/-! ### walk_parts -/
def spParts : Sp := fun vs H Q _ => ∃ v R, vs = [v] ∧ RdAt H R v ∧ Rdr.Ok R ∧ ∀ l H', LP H H' l (walkL R) → Q (.ref l) H'
section
variable {P : Program} {w : World} {K : PySem.W.Frag} {mg : Str → Option Value} {base : Heap}
abbrev nParts : List Str := ["reader", "labels", "empty", "_", "mul", "accepted", "count", "call", "parts", "u", "a", "v", "w"]
theorem scParts : FnScope nParts ["reader"] (defScope sParts) := ⟨rfl, rfl, rfl, by decide +kernel, rfl, by decide +kernel, by decide +kernel⟩
theorem ok_parts (F : DefAt K mg "walk_parts" sParts) (GS : Dn P w K mg base "some" 2 ["parts"] (spSome K)) (GE : Dn P w K mg base "every" 2 ["parts"] (spEvery K)) (GP : Dn P w K mg base "apart" 2 ["v", "w"] spApart)
    (GB : Dn P w K mg base "behind" 3 ["reader", "u"] spBehind) (GA : Dn P w K mg base "arch_part" 3 ["reader", "u", "a"] spArch) (T : Tx mg) :
    Dn P w K mg base "walk_parts" 4 ["reader"] spParts := by
  refine dn_mk F scParts (fun _ _ _ _ _ _ us hl => match us, hl with | [_], _ => rfl) (fun vs H Q E h => ?_) (fun f cdv A outer s H vs Q E hr h => ?_)
  · obtain ⟨v, R, rfl, _⟩ := h
    rfl
  · obtain ⟨v, R, rfl, ⟨a, la, le, mu, wr, ac, ms, ws, rfl, rd⟩, O, k⟩ := h
    refine ⟨_, (pss_cons (ps_asg (pv 0) (pg_tup rfl (pgs_cons (pg_name (i := 1) scParts.nd rfl (.inl rfl)) (pgs_cons (pg_name (i := 2) scParts.nd rfl (.inl rfl)) (pgs_cons (pg_name (i := 3) scParts.nd rfl (.inl rfl)) (pgs_cons (pg_name (i := 4) scParts.nd rfl (.inl rfl)) (pgs_cons (pg_name (i := 3) scParts.nd rfl (.inl rfl)) (pgs_cons (pg_name (i := 5) scParts.nd rfl (.inl rfl)) pgs_nil))))))))
      (pss_cons (ps_set (i := 6) scParts.nd rfl (.inr rfl) (pe_callB (r := tLenS K) call_lenS (by rfl) T.len PySem.boot_len (pa_cons (pv 4) pa_nil)))
      (pss_cons (ps_set (i := 7) scParts.nd rfl (.inl rfl) (pe_dn GS (hr.mono (by decide)) rfl (pa_cons (pe_lc (own := [("a", 10)]) (g := gName 10) (tt := tYes) rfl scParts.nd (pi_range1 rfl T.range (pa_cons (pe_ix (r := rIxT K) ix_tup (pv 1) pe_int (fun _ _ => rfl)) pa_nil)) (blkOk_by (N := nParts) (sc := defScope sParts) (by decide +kernel)) (fun _ _ _ _ _ => (pg_name (i := 10) scParts.nd rfl (.inl rfl))) (fun _ _ _ _ _ => pts_nil) (fun _ _ _ _ _ => (pe_tup (pa_cons pe_str (pa_cons (pv 10) pa_nil))))) pa_nil)))
      (pss_cons (ps_set (i := 8) scParts.nd rfl (.inl rfl) (pe_lst (pa_cons (pe_tup (pa_cons pe_str (pa_cons (pe_dn GE (hr.mono (by decide)) rfl (pa_cons (pe_lc2 (own := [("v", 11), ("w", 12)]) (vs1 := [12]) (g := gName 11) (tt := tYes) (g1 := gName 12) (tt1 := tYes) rfl scParts.nd (pi_range1 rfl T.range (pa_cons (pv 6) pa_nil)) (blkOk_by (N := nParts) (sc := defScope sParts) (by decide +kernel)) (by decide) (fun _ _ _ _ _ => (pg_name (i := 11) scParts.nd rfl (.inl rfl))) (fun _ _ _ _ _ => pts_nil) (fun _ _ _ _ _ => (pi_range1 rfl T.range (pa_cons (pv 6) pa_nil))) (fun _ _ _ _ _ => (pg_name (i := 12) scParts.nd rfl (.inl rfl))) (fun _ _ _ _ _ => pts_nil) (fun _ _ _ _ _ => (pe_dn GP (hr.mono (by decide)) rfl (pa_cons (pv 11) (pa_cons (pv 12) pa_nil))))) pa_nil)) pa_nil))) pa_nil)))
      (pss_cons (ps_expr (pe_bm PySem.F.plainAttrs_list PySem.F.slot_list_append PySem.F.type_list_append mt_append (pv 8) (pa_cons (pe_tup (pa_cons pe_str (pa_cons (pe_dn GB hr rfl (pa_cons (pv 0) (pa_cons (pv 2) pa_nil))) pa_nil))) pa_nil)))
      (pss_cons (ps_expr (pe_bm PySem.F.plainAttrs_list PySem.F.slot_list_append PySem.F.type_list_append mt_append (pv 8) (pa_cons (pe_tup (pa_cons pe_str (pa_cons (pv 7) (pa_cons (pe_dn GB hr rfl (pa_cons (pv 0) (pa_cons (pv 2) pa_nil))) pa_nil)))) pa_nil)))
      (pss_cons (ps_expr (pe_bm PySem.F.plainAttrs_list PySem.F.slot_list_append PySem.F.type_list_append mt_append (pv 8) (pa_cons (pe_tup (pa_cons pe_str (pa_cons (pe_dn GS (hr.mono (by decide)) rfl (pa_cons (pe_lc (own := [("v", 11)]) (g := gName 11) (tt := tYes) rfl scParts.nd (pi_tup (pv 5)) (blkOk_by (N := nParts) (sc := defScope sParts) (by decide +kernel)) (fun _ _ _ _ _ => (pg_name (i := 11) scParts.nd rfl (.inl rfl))) (fun _ _ _ _ _ => pts_nil) (fun _ _ _ _ _ => (pe_tup (pa_cons pe_str (pa_cons (pv 11) pa_nil))))) pa_nil)) pa_nil))) pa_nil)))
      (pss_cons (ps_for PassesOwn.never rfl (pi_range1 rfl T.range (pa_cons (pv 6) pa_nil)) (pg_name (i := 9) scParts.nd rfl (.inl rfl))
        (pss_one (ps_expr (pe_bm PySem.F.plainAttrs_list PySem.F.slot_list_append PySem.F.type_list_append mt_append (pv 8) (pa_cons (pe_tup (pa_cons pe_str (pa_cons (pe_tup (pa_cons pe_str (pa_cons (pe_tup (pa_cons pe_str (pa_cons (pv 7) pa_nil))) (pa_cons (pe_tup (pa_cons pe_str (pa_cons (pv 9) pa_nil))) pa_nil)))) (pa_cons (pe_dn GB hr rfl (pa_cons (pv 0) (pa_cons (pv 9) pa_nil))) pa_nil)))) pa_nil)))))
      (pss_cons (ps_for PassesOwn.never rfl (pi_range1 rfl T.range (pa_cons (pv 6) pa_nil)) (pg_name (i := 9) scParts.nd rfl (.inl rfl))
        (pss_one (ps_for PassesOwn.never rfl (pi_range1 rfl T.range (pa_cons (pe_ix (r := rIxT K) ix_tup (pv 1) pe_int (fun _ _ => rfl)) pa_nil)) (pg_name (i := 10) scParts.nd rfl (.inl rfl))
          (pss_one (ps_expr (pe_bm PySem.F.plainAttrs_list PySem.F.slot_list_append PySem.F.type_list_append mt_append (pv 8) (pa_cons (pe_dn GA hr rfl (pa_cons (pv 0) (pa_cons (pv 9) (pa_cons (pv 10) pa_nil)))) pa_nil)))))))
      (pss_one (ps_ret (pv 8)))))))))))), ?_⟩
    have c2 := O.c2; have n3 := O.n3; have n1 := O.n1; have a3 := O.acc3
    refine ⟨_, rfl, a, _, rfl, sqt rd.top, rfl, _, _, rfl, _, _, rfl, _, _, rfl, _, _, rfl, _, _, rfl, _, _, rfl, rfl, ?_⟩
    change tSeq _ _ _ [some (.ref a), some (.ref la), some (.int 0), some (.ref wr), some (.ref mu), some (.ref ac), none, none, none, none, none, none, none] H
    refine q_setV (evv_is (evv_lenT rd.mul (evv_var (i := 4) rfl)) (by rw [rd.mulR.1])) ?_
    change tSeq _ _ _ [some (.ref a), some (.ref la), some (.int 0), some (.ref wr), some (.ref mu), some (.ref ac), some (.int (R.n : Int)), none, none, none, none, none, none] H
    refine q_set (p := callP R) (evr_some (els_range (evv_ix rd.lab (evv_var (i := 1) rfl) (evv_c (v := .int ((1 : Nat) : Int))) rfl) (by omega) (fun _ => rfl) fun i H1 hi e1 => evr_leaf .call (evv_var (i := 10) rfl))) fun vc H1 s1 rc => ?_
    change tSeq _ _ _ [some (.ref a), some (.ref la), some (.int 0), some (.ref wr), some (.ref mu), some (.ref ac), some (.int (R.n : Int)), some vc, none, none, none, none, none] H1
    have rd1 := rd.same s1
    refine q_new1 (p := .un .all (everyP (apartL R))) (evr_un .all (evr_every (els_range2 (f := apartP) (evv_var (i := 6) rfl) (by omega) (by omega) (fun _ => rfl) (fun i H2 e2 => evv_var (i := 6) rfl) (fun _ _ => rfl)
      fun i k H2 hi hk e2 H3 e3 Q q => ⟨_, rfl, _, rfl, i, k, rfl, q⟩))) fun l H2 L2 => ?_
    change tSeq _ _ _ [some (.ref a), some (.ref la), some (.int 0), some (.ref wr), some (.ref mu), some (.ref ac), some (.int (R.n : Int)), some vc, some (.ref l), none, none, none, none] H2
    have rr : ∀ H', Same H1 H' → RdAt H' R (.ref a) := fun H' e => ⟨a, la, le, mu, wr, ac, ms, ws, rfl, rd1.same e⟩
    have beh : ∀ H' (σ : St) u tb, Same H1 H' → u < R.n → EvV tb σ H' (.int ((u : Nat) : Int)) → σ[0]? = some (some (.ref a)) → EvR (tCall spBehind [] E0 (tCons (tVar 0) (tCons tb tNil))) σ H' (behindP R u) := fun H' σ u tb e hu ht h0 => evr_behind (rr H' e) O hu (evv_var h0) ht
    refine q_app rfl L2 (by show 1 ≤ 1000; decide) (evr_un .first (beh _ _ 0 _ L2.2.1 n1 (evv_var (i := 2) rfl) rfl)) fun H3 L3 => ?_
    refine q_app rfl L3 (by show 2 ≤ 1000; decide) (evr_bi .next (evr_var (i := 7) rfl (rc.same L3.2.1)) (beh _ _ 0 _ L3.2.1 n1 (evv_var (i := 2) rfl) rfl)) fun H4 L4 => ?_
    refine q_app rfl L4 (by show 3 ≤ 1000; decide) (evr_un .last (evr_some (els_ints (f := setP) (rd1.same L4.2.1).acc (evv_var (i := 5) rfl) (by omega) (fun _ => rfl) fun i H5 e5 => evr_leaf .set (evv_var (i := 11) rfl)))) fun H5 L5 => ?_
    have lh : (walkHead R).length = 4 := rfl
    refine q_rng (n := R.n) (evv_var (i := 6) rfl) (by omega)
      (fun i σ H' => i ≤ R.n ∧ ∃ z, σ = [some (.ref a), some (.ref la), some (.int 0), some (.ref wr), some (.ref mu), some (.ref ac), some (.int (R.n : Int)), some vc, some (.ref l), z, none, none, none] ∧ LP H1 H' l (walkHead R ++ (List.range i).map (nextP R)))
      ⟨Nat.zero_le _, none, rfl, L5⟩ ?_ ?_
    · rintro i σ H6 hi ⟨_, z, rfl, L6⟩
      change tDrop _ _ [some (.ref a), some (.ref la), some (.int 0), some (.ref wr), some (.ref mu), some (.ref ac), some (.int (R.n : Int)), some vc, some (.ref l), some (.int (i : Int)), none, none, none] H6
      refine l_app rfl L6 ?_ (evr_bi .next (evr_bi .and (evr_un .not (evr_var (i := 7) rfl (rc.same L6.2.1))) (evr_leaf .set (evv_var (i := 9) rfl))) (beh _ _ i _ L6.2.1 hi (evv_var (i := 9) rfl) rfl)) fun H7 L7 => ?_
      · rw [List.length_append, List.length_map, List.length_range, lh]
        omega
      · refine ⟨hi, some (.int (i : Int)), rfl, ?_⟩
        rw [List.range_succ, List.map_append, ← List.append_assoc]
        exact L7
    · rintro σ H6 ⟨_, z, rfl, L6⟩
      change tSeq _ _ _ [some (.ref a), some (.ref la), some (.int 0), some (.ref wr), some (.ref mu), some (.ref ac), some (.int (R.n : Int)), some vc, some (.ref l), z, none, none, none] H6
      refine q_rng (n := R.n) (evv_var (i := 6) rfl) (by omega)
        (fun i σ H' => i ≤ R.n ∧ ∃ z y, σ = [some (.ref a), some (.ref la), some (.int 0), some (.ref wr), some (.ref mu), some (.ref ac), some (.int (R.n : Int)), some vc, some (.ref l), z, y, none, none] ∧
          LP H1 H' l (walkHead R ++ (List.range R.n).map (nextP R) ++ (List.range i).flatMap fun u => (List.range R.c).map fun a => archP R u a))
        ⟨Nat.zero_le _, z, none, rfl, by simpa using L6⟩ ?_ ?_
      · rintro i σ H7 hi ⟨_, z, y, rfl, L7⟩
        change tFor _ _ _ _ [some (.ref a), some (.ref la), some (.int 0), some (.ref wr), some (.ref mu), some (.ref ac), some (.int (R.n : Int)), some vc, some (.ref l), some (.int (i : Int)), y, none, none] H7
        refine l_rng (n := R.c) (evv_ix (rd1.same L7.2.1).lab (evv_var (i := 1) rfl) (evv_c (v := .int ((1 : Nat) : Int))) rfl) (by omega)
          (fun j σ H' => j ≤ R.c ∧ ∃ y, σ = [some (.ref a), some (.ref la), some (.int 0), some (.ref wr), some (.ref mu), some (.ref ac), some (.int (R.n : Int)), some vc, some (.ref l), some (.int (i : Int)), y, none, none] ∧
            LP H1 H' l (walkHead R ++ (List.range R.n).map (nextP R) ++ ((List.range i).flatMap fun u => (List.range R.c).map fun a => archP R u a) ++ (List.range j).map fun a => archP R i a))
          ⟨Nat.zero_le _, y, rfl, by simpa using L7⟩ ?_ ?_
        · rintro j σ H8 hj ⟨_, y, rfl, L8⟩
          change tDrop _ _ [some (.ref a), some (.ref la), some (.int 0), some (.ref wr), some (.ref mu), some (.ref ac), some (.int (R.n : Int)), some vc, some (.ref l), some (.int (i : Int)), some (.int (j : Int)), none, none] H8
          refine l_app rfl L8 ?_ (evr_arch (rr _ L8.2.1) O hi hj (evv_var (i := 0) rfl) (evv_var (i := 9) rfl) (evv_var (i := 10) rfl)) fun H9 L9 => ?_
          · rw [List.length_append, List.length_append, List.length_append, List.length_map, List.length_map, List.length_range, List.length_range, len_flat, lh]
            have := mul_le (show i ≤ 3 by omega) c2
            omega
          · refine ⟨hj, some (.int (j : Int)), rfl, ?_⟩
            rw [List.range_succ, List.map_append, ← List.append_assoc]
            exact L9
        · rintro σ H8 ⟨_, y, rfl, L8⟩
          refine ⟨hi, some (.int (i : Int)), y, rfl, ?_⟩
          rw [flat_succ, ← List.append_assoc]
          exact L8
      · rintro σ H7 ⟨_, z, y, rfl, L7⟩
        refine ⟨.ref l, rfl, k l H7 ?_⟩
        obtain ⟨h1, h2, xs, h3, h4⟩ := L7
        exact ⟨s1.free h1, s1.trans h2, xs, h3, h4⟩
end
/-! ### walk_part -/
def spWalkP : Sp := fun vs H Q _ => ∃ v R, vs = [v] ∧ RdAt H R v ∧ Rdr.Ok R ∧ RetP (walkP R) H Q
section
variable {P : Program} {w : World} {K : PySem.W.Frag} {mg : Str → Option Value} {base : Heap}
abbrev nWalkP : List Str := ["reader", "made", "part"]
theorem scWalkP : FnScope nWalkP ["reader"] (defScope sWalkP) := ⟨rfl, rfl, rfl, by decide +kernel, rfl, by decide +kernel, by decide +kernel⟩
theorem ok_walkP (F : DefAt K mg "walk_part" sWalkP) (GY : Dn P w K mg base "yes" 1 [] spYes) (GP : Dn P w K mg base "walk_parts" 4 ["reader"] spParts) (T : Tx mg) :
    Dn P w K mg base "walk_part" 5 ["reader"] spWalkP := by
  refine dn_mk F scWalkP (fun _ _ _ _ _ _ us hl => match us, hl with | [_], _ => rfl) (fun vs H Q E h => ?_) (fun f cdv A outer s H vs Q E hr h => ?_)
  · obtain ⟨v, R, rfl, _⟩ := h
    rfl
  · obtain ⟨v, R, rfl, rd, O, k⟩ := h
    refine ⟨_, (pss_cons (ps_set (i := 1) scWalkP.nd rfl (.inl rfl) (pe_tup (pa_cons pe_str (pa_cons (pe_dn0 GY (hr.mono (by decide)) rfl) pa_nil))))
      (pss_cons (ps_for PassesOwn.never rfl (pi_reversed rfl T.reversed (pa_cons (pe_dn GP hr rfl (pa_cons (pv 0) pa_nil)) pa_nil)) (pg_name (i := 2) scWalkP.nd rfl (.inl rfl))
        (pss_one (ps_set (i := 1) scWalkP.nd rfl (.inl rfl) (pe_tup (pa_cons pe_str (pa_cons (pv 2) (pa_cons (pv 1) pa_nil)))))))
      (pss_one (ps_ret (pv 1))))), ?_⟩
    refine q_set (evr_un .all evr_yes) fun y H1 s1 ry => ?_
    change tSeq _ _ _ [some v, some y, none] H1
    refine ⟨v, rfl, v, R, rfl, rd.same s1, O, fun l H2 L2 => ?_⟩
    obtain ⟨h1, h2, xs, h3, h4⟩ := L2
    refine ⟨l, xs, rfl, sql h3, for_it walk_rev (fun i σ H' => ∃ (y : V) (z : Option V), σ = [some v, some y, z] ∧ Same H2 H' ∧ Rep H' (bothP ((walkL R).drop ((walkL R).length - i))) y)
      ⟨y, none, rfl, Same.refl _, by rw [Nat.sub_zero, List.drop_length]; exact ry.same h2⟩ (fun i σ H' _ ⟨_, _, _, e, _⟩ => e.seq (sql h3)) ?_ ?_⟩
    · rintro i x σ H3 H4 hi ⟨y, z, rfl, s3, r3⟩ ⟨rfl, hx⟩
      rw [← h4.len] at hi hx
      obtain ⟨p, hp, rp⟩ := pair_get h4 hx
      refine l_set (evr_bi .both (evr_var (i := 2) rfl (rp.same s3)) (evr_var (i := 1) rfl r3)) fun v' H5 s5 r5 => ?_
      refine ⟨v', some x, rfl, s3.trans s5, ?_⟩
      rw [drop_back hi hp]
      exact r5
    · rintro σ H3 ⟨y, z, rfl, s3, r3⟩
      rw [← h4.len, Nat.sub_self] at r3
      exact ⟨y, rfl, k y H3 (s1.trans (h2.trans s3)) r3⟩
end
end Arc


namespace Arc
open PySem PySem.Spec PyProof.Rows L2
/-! ### lines in the heap -/
def LineRep (H : Hp) : Line → V → Prop
  | .leaf k i, v => ∃ a, v = .ref a ∧ H a = some (.tup [.str k.str, .int (i : Int)])
  | .un k m, v => ∃ a, v = .ref a ∧ H a = some (.tup [.str k.str, .int (m : Int)])
  | .bi k m n, v => ∃ a, v = .ref a ∧ H a = some (.tup [.str k.str, .int (m : Int), .int (n : Int)])
theorem LineRep.tp {H H' : Hp} (e : Tp H H') : ∀ {l : Line} {v : V}, LineRep H l v → LineRep H' l v
  | .leaf _ _, _, ⟨a, h1, h2⟩ => ⟨a, h1, e _ _ h2⟩
  | .un _ _, _, ⟨a, h1, h2⟩ => ⟨a, h1, e _ _ h2⟩
  | .bi _ _ _, _, ⟨a, h1, h2⟩ => ⟨a, h1, e _ _ h2⟩
def LinesAt (H : Hp) (ls : List Line) (vs : List V) : Prop := Paired (LineRep H) ls vs
theorem LinesAt.tp {H H' : Hp} (e : Tp H H') {ls : List Line} {vs : List V} (h : LinesAt H ls vs) : LinesAt H' ls vs := Paired.mapP h fun _ _ r => r.tp e
def ItRep (H : Hp) (it : Part × Bool) (v : V) : Prop := ∃ t x, v = .ref t ∧ H t = some (.tup [x, .bl it.2]) ∧ Rep H it.1 x
theorem ItRep.tp {H H' : Hp} (e : Tp H H') {it : Part × Bool} {v : V} (h : ItRep H it v) : ItRep H' it v := by
  obtain ⟨t, x, h1, h2, h3⟩ := h
  exact ⟨t, x, h1, e _ _ h2, h3.tp e⟩
def ItsAt (H : Hp) (W : List (Part × Bool)) (vs : List V) : Prop := Paired (ItRep H) W vs
theorem ItsAt.tp {H H' : Hp} (e : Tp H H') {W : List (Part × Bool)} {vs : List V} (h : ItsAt H W vs) : ItsAt H' W vs := Paired.mapP h fun _ _ r => r.tp e
theorem pair_app {α β : Type} {F : α → β → Prop} : ∀ {ps qs : List α} {vs ws : List β}, Paired F ps vs → Paired F qs ws → Paired F (ps ++ qs) (vs ++ ws)
  | _, _, _, _, .nil, s => s
  | _, _, _, _, .cons r t, s => .cons r (pair_app t s)
theorem pair_last {α β : Type} {F : α → β → Prop} {a : α} : ∀ {l : List α} {ys : List β}, Paired F (l ++ [a]) ys → ∃ ys' b, ys = ys' ++ [b] ∧ Paired F l ys' ∧ F a b
  | [], _, .cons r .nil => ⟨[], _, rfl, .nil, r⟩
  | _ :: l, _, .cons r t => by
    obtain ⟨ys', b, e, h1, h2⟩ := pair_last t
    exact ⟨_ :: ys', b, by rw [e]; rfl, .cons r h1, h2⟩
def intsV (N : List Nat) : List V := N.map fun n : Nat => V.int (n : Int)
theorem intsV_len (N : List Nat) : (intsV N).length = N.length := List.length_map _
theorem cut_from {α : Type} (xs : List V) {k : Nat} (h : k ≤ xs.length) : cutV xs (some (k : Int)) none = xs.drop k := by
  unfold cutV
  rw [HT.sIx_nat, HT.sIx_none, Nat.min_eq_left h, List.take_of_length_le (by rw [List.length_drop]; exact Nat.le_refl _)]
theorem cut_to {α : Type} (xs : List V) {k : Nat} (h : k ≤ xs.length) : cutV xs none (some (k : Int)) = xs.take k := by
  unfold cutV
  rw [HT.sIx_nat, HT.sIx_none, Nat.min_eq_left h]
  rfl
/-! ### add_line -/
def spAdd : Sp := fun vs H Q _ => ∃ (a : Addr) (xs : List V) (y : V), vs = [.ref a, y] ∧ H a = some (.lst xs) ∧ xs.length < 4000 ∧ Q (.int (xs.length : Int)) (upd H a (.lst (xs ++ [y])))
section
variable {P : Program} {w : World} {K : PySem.W.Frag} {mg : Str → Option Value} {base : Heap}
abbrev nAdd : List Str := ["rows", "line"]
theorem scAdd : FnScope nAdd ["rows", "line"] (defScope sAdd) := ⟨rfl, rfl, rfl, by decide +kernel, rfl, by decide +kernel, by decide +kernel⟩
theorem ok_add (F : DefAt K mg "add_line" sAdd) (T : Tx mg) {t : Tok} (mM : mg "MOST_LINES" = some (.int 4000 t)) : Dn P w K mg base "add_line" 1 ["rows", "line"] spAdd := by
  refine dn_mk F scAdd (fun _ _ _ _ _ _ us hl => match us, hl with | [_, _], _ => rfl) (fun vs H Q E h => ?_) (fun f cdv A outer s H vs Q E hr h => ?_)
  · obtain ⟨a, xs, y, rfl, _⟩ := h
    rfl
  · obtain ⟨a, xs, y, rfl, hA, hl, k⟩ := h
    refine ⟨_, (pss_cons (ps_if (pt_cmpR op_eq (pe_callB (r := tLenS K) call_lenS (by rfl) T.len PySem.boot_len (pa_cons (pv 0) pa_nil)) (pe_glob (v := .int 4000) rfl mM ⟨_, rfl⟩) (nomark _))
        (pss_one ps_never)
        pss_nil)
      (pss_cons (ps_expr (pe_bm PySem.F.plainAttrs_list PySem.F.slot_list_append PySem.F.type_list_append mt_append (pv 0) (pa_cons (pv 1) pa_nil)))
      (pss_one (ps_ret (pe_op op_sub (pe_callB (r := tLenS K) call_lenS (by rfl) T.len PySem.boot_len (pa_cons (pv 0) pa_nil)) pe_int))))), ?_⟩
    refine ⟨_, rfl, a, xs, rfl, .inl (sql hA), rfl, _, rfl, ite2 (fun c => ?_) (fun c => ?_)⟩
    · have e : ((xs.length : Nat) : Int) = 4000 := V.int.inj (of_decide_eq_true c)
      omega
    · refine ⟨_, rfl, .inl ⟨rfl, _, sql hA⟩, _, rfl, a, xs, y, rfl, rfl, hA, szlt (by omega), ?_⟩
      refine ⟨_, rfl, a, _, rfl, .inl (sql upd_same), _, _, rfl, rfl, ?_⟩
      rw [List.length_append]
      show Q (.int (((xs.length + 1 : Nat) : Int) - 1)) _
      rw [show ((xs.length + 1 : Nat) : Int) - 1 = ((xs.length : Nat) : Int) by omega]
      exact k
end
/-! ### laid_out -/
def leavesV : List V := [.str "set", .str "letter", .str "call", .str "return", .str "nothing"]
theorem in_leaf : ∀ k : LK, (if false = true then !inV (.str k.str) leavesV else inV (.str k.str) leavesV) = true := by intro k; cases k <;> decide +kernel
theorem in_un : ∀ k : UK, (if false = true then !inV (.str k.str) leavesV else inV (.str k.str) leavesV) = false := by intro k; cases k <;> decide +kernel
theorem in_bi : ∀ k : BK, (if false = true then !inV (.str k.str) leavesV else inV (.str k.str) leavesV) = false := by intro k; cases k <;> decide +kernel
section
variable {K : PySem.W.Frag}
theorem walk_revT {a : Addr} {xs : List V} : Walk (RT.ItvT K a xs.length) xs.length (fun H => SqT K H a xs) (fun i H x H' => H' = H ∧ xs[xs.length - 1 - i]? = some x) :=
  ⟨fun i _ hi q => ⟨hi, xs, xs[xs.length - 1 - i]'(by omega), q, by simp [show xs.length - 1 - i < xs.length by omega]⟩, fun _ _ => Nat.le_refl _, fun _ _ _ _ _ q y => ⟨y.1, y.2 xs q⟩⟩
/-- [(inner, False) for inner in reversed(a tuple of parts)] -/
theorem comp_items {σ : St} {H : Hp} {te : TE} {qs : List Part} (hz : qs.length ≤ 2) (ht : ∀ Q : VK, (∀ a zs H1, Same H H1 → H1 a = some (.tup zs) → Reps H1 qs zs → Q (.ref a) H1) → te σ H Q)
    (hw : ∀ x, wipe ((wipe σ [8]).set 8 (some x)) [8] = wipe σ [8]) (hg : ∀ x, ((wipe σ [8]).set 8 (some x))[8]? = some (some x)) {Q : VK}
    (q : ∀ D ys H2, H D = none → Same H H2 → H2 D = some (.lst ys) → ItsAt H2 (qs.reverse.map fun p => (p, false)) ys → Q (.ref D) H2) :
    tLc (RT.iRevA K te) (gName 8) tYes (tTup (tCons (tVar 8) (tCons (tC (.bl false)) tNil))) [8] σ H Q :=
  ht _ fun a zs H1 e1 ha hr => ⟨a, zs, rfl, .inr ⟨sqt ha, fun D hD => lc_it walk_revT (fun i H' => Same H1 H' ∧ ∃ ys, H' D = some (.lst ys) ∧ ItsAt H' ((qs.reverse.take i).map fun p => (p, false)) ys)
    ⟨same_new hD, [], upd_same, .nil⟩ (fun i H' _ hP => sqt (hP.1 _ _ ha)) (fun i x H2 H3 hi hP hy => by
      obtain ⟨rfl, hx⟩ := hy
      obtain ⟨h2, ys, h3, h4⟩ := hP
      rw [← hr.len] at hi hx
      obtain ⟨p, hp, rp⟩ := pair_get hr hx
      rw [← List.getElem?_reverse hi] at hp
      refine ⟨hw x, x, hg x, le2, fun t ht => ⟨ys, same_new ht _ _ h3, szlt ?_, ?_⟩⟩
      · have := h4.length
        rw [List.length_map, List.length_take] at this
        omega
      · refine ⟨?_, _, upd_same, ?_⟩
        · exact same_mut (h2.trans (same_new ht)) hD
        · rw [List.take_add_one, hp, List.map_append]
          have tp2 : Tp H3 (upd (upd H3 t (.tup [x, .bl false])) D (.lst (ys ++ [.ref t]))) := (tp_new ht).trans (tp_lst (same_new ht _ _ h3))
          refine Paired.snoc (h4.tp tp2) ⟨t, x, rfl, ?_, (rp.same h2).tp tp2⟩
          exact tp_lst (same_new ht _ _ h3) _ _ upd_same) (fun H' hP => by
      obtain ⟨h2, ys, h3, h4⟩ := hP
      rw [← hr.len, ← List.length_reverse, List.take_length] at h4
      exact q D ys H' (e1.free hD) (e1.trans h2) h3 h4)⟩⟩
end
structure LaidInv (p0 : Part) (H0 H : Hp) (lr ln lw : Addr) (W : List (Part × Bool)) (N : List Nat) (R : List Line) (xs rs : List V) : Prop where
  same : Same H0 H
  r0 : H0 lr = none
  n0 : H0 ln = none
  w0 : H0 lw = none
  rn : lr ≠ ln
  rw_ : lr ≠ lw
  nw : ln ≠ lw
  hr : H lr = some (.lst rs)
  rr : LinesAt H R rs
  hn : H ln = some (.lst (intsV N))
  hw : H lw = some (.lst xs)
  ww : ItsAt H W.reverse xs
  ok : okW W N.length
  nr : N.length ≤ R.length
  cnt : R.length + remW W = p0.size
  fn : fin W (N, R) = ([p0.size - 1], lay p0 0)
def LaidW (p0 : Part) (v0 : V) (H0 : Hp) (m : Nat) (σ : St) (H : Hp) : Prop :=
  ∃ lr ln lw W N R xs rs y4 y5 y6 y7, σ = [some v0, some (.ref lr), some (.ref ln), some (.ref lw), y4, y5, y6, y7, none] ∧ LaidInv p0 H0 H lr ln lw W N R xs rs ∧ m = msW W
def spLaid : Sp := fun vs H Q _ => ∃ v p, vs = [v] ∧ Rep H p v ∧ p.size ≤ 3000 ∧ ∀ t rs H', Same H H' → H' t = some (.tup rs) → LinesAt H' (lay p 0) rs → Q (.ref t) H'
section
variable {P : Program} {w : World} {K : PySem.W.Frag} {mg : Str → Option Value} {base : Heap}
abbrev nLaid : List Str := ["part", "rows", "numbers", "waiting", "item", "ready", "count", "line", "inner"]
theorem scLaid : FnScope nLaid ["part"] (defScope sLaid) := ⟨rfl, rfl, rfl, by decide +kernel, rfl, by decide +kernel, by decide +kernel⟩
/-- a line laid -/
theorem laid_add {p0 : Part} {H0 H H1 : Hp} {lr ln lw ln' : Addr} {it : Part × Bool} {W : List (Part × Bool)} {N N' : List Nat} {R : List Line} {xs xs' rs : List V} {y x : V} {l : Line} (I : LaidInv p0 H0 H lr ln lw (it :: W) N R xs rs)
    (ex : xs = xs' ++ [y]) (hx : ItsAt H W.reverse xs') (e1 : ∀ a o, a ≠ lr → a ≠ ln → a ≠ lw → H a = some o → H1 a = some o) (h1r : H1 lr = some (.lst (rs ++ [x]))) (h1n : H1 ln' = some (.lst (intsV N'))) (h1w : H1 lw = some (.lst xs'))
    (n0 : H0 ln' = none) (rn : lr ≠ ln') (nw : ln' ≠ lw) (tp : Tp H H1) (hl : LineRep H1 l x) (es : stp it (N, R) = (N', R ++ [l])) (hN : N'.length ≤ N.length + 1) (hok : okW W N'.length) (hrem : rem1 it = 1) : LaidInv p0 H0 H1 lr ln' lw W N' (R ++ [l]) xs' (rs ++ [x]) := by
  refine ⟨fun a o e => ?_, I.r0, n0, I.w0, rn, I.rw_, nw, h1r, Paired.snoc (I.rr.tp tp) hl, h1n, h1w, hx.tp tp, hok, ?_, ?_, ?_⟩
  · exact e1 a o (ne_of_none e I.r0) (ne_of_none e I.n0) (ne_of_none e I.w0) (I.same a o e)
  · have := I.nr
    rw [List.length_append]
    show N'.length ≤ R.length + 1
    omega
  · have h : R.length + (rem1 it + remW W) = p0.size := I.cnt
    rw [List.length_append]
    show R.length + 1 + remW W = p0.size
    omega
  · have h : fin W (stp it (N, R)) = _ := I.fn
    rw [es] at h
    exact h
end
end Arc


namespace Arc
open PySem PySem.Spec PyProof.Rows L2
/-- what the global LEAVES is -/
def Lv (K : PySem.W.Frag) (mg : Str → Option Value) (aL : Addr) : Prop := mg "LEAVES" = some (.ref aL) ∧ ∀ H, SqT K H aL leavesV
/-- a part that has parts -/
structure PtOk (pt : Part) (qs : List Part) (s : Str) : Prop where
  len1 : 1 ≤ qs.length
  len2 : qs.length ≤ 2
  cnt : pt.cnt = qs.length
  notin : (if false = true then !inV (.str s) leavesV else inV (.str s) leavesV) = false
  line : ∀ (H : Hp) (t : Addr) (ns : List Nat), ns.length = qs.length → H t = some (.tup (.str s :: intsV ns)) → LineRep H (mkL pt ns) (.ref t)
  fn : ∀ W x, fin ((qs.map fun p => (p, false)) ++ (pt, true) :: W) x = fin W (stp (pt, false) x)
  ok : ∀ W n, okW W (n + 1) → okW ((qs.map fun p => (p, false)) ++ (pt, true) :: W) n
  rem : ∀ W, remW ((qs.map fun p => (p, false)) ++ (pt, true) :: W) = pt.size + remW W
  ms : ∀ W, msW ((qs.map fun p => (p, false)) ++ (pt, true) :: W) < 2 * pt.size + msW W
theorem part_view {H : Hp} : ∀ {pt : Part} {x : V}, Rep H pt x → (∃ kd i, pt = .leaf kd i) ∨ ∃ a s zs qs, x = .ref a ∧ H a = some (.tup (.str s :: zs)) ∧ Reps H qs zs ∧ PtOk pt qs s
  | .leaf kd i, _, _ => .inl ⟨kd, i, rfl⟩
  | .un k p, x, ⟨a, y, e, h, r⟩ => by
    refine .inr ⟨a, k.str, [y], [p], e, h, .cons r .nil, Nat.le_refl 1, Nat.le_succ 1, rfl, in_un k, fun H t ns hl ht => ?_, fun W x => ?_, fun W n h => ?_, fun W => ?_, fun W => ?_⟩
    · match ns, hl with
      | [m], _ => exact ⟨t, rfl, ht⟩
    · show fin W (stp (.un k p, true) (stp (p, false) x)) = _
      rw [stp_un]
    · exact ⟨Nat.le_add_left 1 n, h⟩
    · show p.size + (1 + remW W) = p.size + 1 + remW W
      omega
    · show 2 * p.size + (1 + msW W) < 2 * (p.size + 1) + msW W
      omega
  | .bi k p q, x, ⟨a, y, z, e, h, r, r'⟩ => by
    refine .inr ⟨a, k.str, [y, z], [p, q], e, h, .cons r (.cons r' .nil), Nat.le_succ 1, Nat.le_refl 2, rfl, in_bi k, fun H t ns hl ht => ?_, fun W x => ?_, fun W n h => ?_, fun W => ?_, fun W => ?_⟩
    · match ns, hl with
      | [m, m'], _ => exact ⟨t, rfl, ht⟩
    · show fin W (stp (.bi k p q, true) (stp (q, false) (stp (p, false) x))) = _
      rw [stp_bi]
    · exact ⟨Nat.le_add_left 2 n, h⟩
    · show p.size + (q.size + (1 + remW W)) = p.size + q.size + 1 + remW W
      omega
    · show 2 * p.size + (2 * q.size + (1 + msW W)) < 2 * (p.size + q.size + 1) + msW W
      omega
theorem sw_new {H : Hp} {p a : Addr} {o u : HO} (h : H p = none) (e : H a = some u) : upd H p o a = some u := same_new h _ _ e
section
variable {P : Program} {w : World} {K : PySem.W.Frag} {mg : Str → Option Value} {base : Heap}
theorem ok_laid (F : DefAt K mg "laid_out" sLaid) (T : Tx mg) {aL : Addr} (L : Lv K mg aL) (GA : Dn P w K mg base "add_line" 1 ["rows", "line"] spAdd) : Dn P w K mg base "laid_out" 2 ["part"] spLaid := by
  refine dn_mk F scLaid (fun _ _ _ _ _ _ us hl => match us, hl with | [_], _ => rfl) (fun vs H Q E h => ?_) (fun f cdv A outer s H vs Q E hr h => ?_)
  · obtain ⟨v, p, rfl, _⟩ := h
    rfl
  · obtain ⟨v0, p0, rfl, r0, hz, k⟩ := h
    refine ⟨_, (pss_cons (ps_set (i := 1) scLaid.nd rfl (.inl rfl) (pe_lst pa_nil))
      (pss_cons (ps_set (i := 2) scLaid.nd rfl (.inl rfl) (pe_lst pa_nil))
      (pss_cons (ps_set (i := 3) scLaid.nd rfl (.inl rfl) (pe_lst (pa_cons (pe_tup (pa_cons (pv 0) (pa_cons pe_bl pa_nil))) pa_nil)))
      (pss_cons (ps_while PassesOwn.never (pt_truth (pv 3) (by intro _; rfl))
        (pss_cons (ps_asg (pe_bm0 PySem.F.plainAttrs_list PySem.F.slot_list_pop PySem.F.type_list_pop mt_pop (pv 3)) (pg_tup rfl (pgs_cons (pg_name (i := 4) scLaid.nd rfl (.inl rfl)) (pgs_cons (pg_name (i := 5) scLaid.nd rfl (.inl rfl)) pgs_nil))))
        (pss_one (ps_if (pt_cmpR (r := rIn K false) op_in_seq (pe_ix (r := rIxT K) ix_tup (pv 4) pe_int (fun _ _ => rfl)) (pe_glob (v := .ref aL) rfl L.1 rfl) (by rfl))
          (pss_one (ps_expr (pe_bm PySem.F.plainAttrs_list PySem.F.slot_list_append PySem.F.type_list_append mt_append (pv 2) (pa_cons (pe_dn GA hr rfl (pa_cons (pv 1) (pa_cons (pv 4) pa_nil))) pa_nil))))
          (pss_one (ps_if (pt_val (pv 5))
            (pss_cons (ps_set (i := 6) scLaid.nd rfl (.inl rfl) (pe_op op_sub (pe_callB (r := tLenS K) call_lenS (by rfl) T.len PySem.boot_len (pa_cons (pv 4) pa_nil)) pe_int))
            (pss_cons (ps_set (i := 7) scLaid.nd rfl (.inl rfl) (pe_op op_catA (pe_tup (pa_cons (pe_ix (r := rIxT K) ix_tup (pv 4) pe_int (fun _ _ => rfl)) pa_nil)) (pe_callTy (r := tTupO K) call_tupO (by rfl) T.tuple (by decide +kernel) (pa_cons (pe_slice (r := rSlL K) sl_list (pv 2) (po_some (pe_op op_sub (pe_callB (r := tLenS K) call_lenS (by rfl) T.len PySem.boot_len (pa_cons (pv 2) pa_nil)) (pv 6))) po_none) pa_nil))))
            (pss_one (ps_set (i := 2) scLaid.nd rfl (.inl rfl) (pe_op op_cat (pe_slice (r := rSlL K) sl_list (pv 2) po_none (po_some (pe_op op_sub (pe_callB (r := tLenS K) call_lenS (by rfl) T.len PySem.boot_len (pa_cons (pv 2) pa_nil)) (pv 6)))) (pe_lst (pa_cons (pe_dn GA hr rfl (pa_cons (pv 1) (pa_cons (pv 7) pa_nil))) pa_nil)))))))
            (pss_cons (ps_expr (pe_bm PySem.F.plainAttrs_list PySem.F.slot_list_append PySem.F.type_list_append mt_append (pv 3) (pa_cons (pe_tup (pa_cons (pv 4) (pa_cons pe_bl pa_nil))) pa_nil)))
            (pss_one (ps_aug (i := 3) scLaid.nd rfl (.inl rfl) (pe_lc (own := [("inner", 8)]) (g := gName 8) (tt := tYes) rfl scLaid.nd (RT.pi_revA rfl T.reversed (pe_slice (r := rSlA K) sl_tupA (pv 4) (po_some pe_int) po_none)) (blkOk_by (N := nLaid) (sc := defScope sLaid) (by decide +kernel)) (fun _ _ _ _ _ => (pg_name (i := 8) scLaid.nd rfl (.inl rfl))) (fun _ _ _ _ _ => pts_nil) (fun _ _ _ _ _ => (pe_tup (pa_cons (pv 8) (pa_cons pe_bl pa_nil))))) iop_ext)))))))))
      (pss_one (ps_ret (pe_callTy (r := tTupO K) call_tupO (by rfl) T.tuple (by decide +kernel) (pa_cons (pv 1) pa_nil)))))))), ?_⟩
    refine ⟨Nat.zero_le _, fun lr hlr => ⟨Nat.zero_le _, fun ln hln => ?_⟩⟩
    change tSeq _ _ _ [some v0, some (.ref lr), some (.ref ln), none, none, none, none, none, none] _
    refine ⟨_, rfl, le2, fun t ht => ⟨by show 1 ≤ sizeLine; decide, fun lw hlw => ?_⟩⟩
    change tSeq _ _ _ [some v0, some (.ref lr), some (.ref ln), some (.ref lw), none, none, none, none, none] _
    have n1 : H ln = none := (same_new hlr).free hln
    have t1 : H t = none := (same_new hlr).free ((same_new hln).free ht)
    have w1 : H lw = none := (same_new hlr).free ((same_new hln).free ((same_new ht).free hlw))
    have rn : lr ≠ ln := ne_of_none (upd_same (o := .lst [])) hln
    have rw_ : lr ≠ lw := ne_of_none (sw_new ht (sw_new hln (upd_same (o := .lst [])))) hlw
    have nw : ln ≠ lw := ne_of_none (sw_new ht (upd_same (o := .lst []))) hlw
    have s0 : Same H (upd (upd (upd (upd H lr (.lst [])) ln (.lst [])) t (.tup [v0, .bl false])) lw (.lst [.ref t])) := (same_new hlr).trans ((same_new hln).trans ((same_new ht).trans (same_new hlw)))
    refine ⟨LaidW p0 v0 H, ⟨_, lr, ln, lw, [(p0, false)], [], [], [.ref t], [], none, none, none, none, rfl, ⟨s0, hlr, n1, w1, rn, rw_, nw, ?_, .nil, ?_, upd_same, .cons ⟨t, v0, rfl, sw_new hlw upd_same, r0.same s0⟩ .nil, trivial, Nat.le_refl _, ?_, ?_⟩, rfl⟩, ?_⟩
    · exact sw_new hlw (sw_new ht (sw_new hln upd_same))
    · exact sw_new hlw (sw_new ht upd_same)
    · show 0 + (p0.size + 0) = p0.size
      omega
    · show (([] : List Nat) ++ [0 + p0.size - 1], ([] : List Line) ++ lay p0 0) = _
      rw [Nat.zero_add]
      rfl
    rintro m σ H1 ⟨lr, ln, lw, W, N, R, xs, rs, y4, y5, y6, y7, rfl, I, rfl⟩
    cases W with
    | nil =>
      have ex : xs = [] := by
        have := I.ww
        cases xs with
        | nil => rfl
        | cons x r => cases this
      subst ex
      refine ⟨_, rfl, false, .inl ⟨_, sql I.hw, rfl⟩, iteF ?_⟩
      have ef := I.fn
      have ef : (N, R) = ([p0.size - 1], lay p0 0) := ef
      refine ⟨_, rfl, lr, rs, rfl, .inl ⟨sql I.hr, fun t ht => ?_⟩⟩
      refine k t rs _ (I.same.trans (same_new ht)) upd_same ?_
      have q := LinesAt.tp (tp_new (o := .tup rs) ht) I.rr
      rw [(Prod.mk.inj ef).2] at q
      exact q
    | cons it W =>
      obtain ⟨xs', y, rfl, hx, hy⟩ := pair_last (by have := I.ww; rw [List.reverse_cons] at this; exact this)
      have hlen : (xs' ++ [y]).length = xs'.length + 1 := by rw [List.length_append]; rfl
      refine ⟨_, rfl, true, .inl ⟨_, sql I.hw, by cases xs' <;> rfl⟩, iteT ⟨fun σ' H' => ∃ m', m' < msW (it :: W) ∧ LaidW p0 v0 H m' σ' H', fun _ _ h => h, ?_⟩⟩
      -- item, ready = waiting.pop()
      obtain ⟨t, x, rfl, ht, hp⟩ := hy
      obtain ⟨pt, rdy⟩ := it
      have twl : t ≠ lw := ne_of ht I.hw (by intro z; cases z)
      refine ⟨_, rfl, .inl ⟨rfl, _, sql I.hw⟩, lw, _, .ref t, rfl, rfl, I.hw, (by rw [hlen, Nat.add_sub_cancel, List.getElem?_append_right (Nat.le_refl _), Nat.sub_self]; rfl), t, [x, .bl rdy], rfl, sqt (by rw [upd_ne twl]; exact ht), rfl, _, _, rfl, _, _, rfl, rfl, ?_⟩
      rw [List.dropLast_concat]
      dsimp only
      change tIfS _ _ _ _ [some v0, some (.ref lr), some (.ref ln), some (.ref lw), some x, some (.bl rdy), y6, y7, none] _
      have tpw : Tp H1 (upd H1 lw (.lst xs')) := tp_lst I.hw
      have hpw : Rep _ pt x := hp.tp tpw
      have nr1 : N.length ≤ R.length := I.nr
      have hR : R.length ≤ 3000 := by have := I.cnt; omega
      have hR1 : R.length < 3000 := by
        have h : R.length + (rem1 (pt, rdy) + remW W) = p0.size := I.cnt
        have : 1 ≤ rem1 (pt, rdy) := by
          cases rdy
          · exact size_pos pt
          · exact Nat.le_refl 1
        omega
      have hrs : rs.length = R.length := I.rr.length.symm
      have rlw : lr ≠ lw := I.rw_
      have hr2 : upd H1 lw (.lst xs') lr = some (.lst rs) := by rw [upd_ne I.rw_]; exact I.hr
      have hn2 : upd H1 lw (.lst xs') ln = some (.lst (intsV N)) := by rw [upd_ne I.nw]; exact I.hn
      rcases part_view hpw with ⟨kd, i, rfl⟩ | ⟨a, sn, zs, qs, rfl, ha, hq, Z⟩
      · obtain ⟨a, rfl, ha⟩ := id hpw
        refine evv_ix ha (evv_var (i := 4) rfl) (evv_c (v := .int ((0 : Nat) : Int))) rfl _ (Same.refl _) _ ⟨aL, leavesV, rfl, .inr (L.2 _), rfl, rfl, true, congrArg V.bl (in_leaf kd), iteT ?_⟩
        refine ⟨_, rfl, .inl ⟨rfl, _, sql hn2⟩, _, rfl, _, rfl, lr, rs, .ref a, rfl, hr2, by omega, ln, _, _, rfl, rfl, (by rw [upd_ne I.rn.symm]; exact hn2), szlt (by rw [intsV_len]; omega), ?_⟩
        refine ⟨msW W, (by have := ms_pos (Part.leaf kd i, rdy); show msW W < ms (Part.leaf kd i, rdy) + msW W; omega), lr, ln, lw, W, N ++ [R.length], R ++ [.leaf kd i], xs', rs ++ [.ref a], some (.ref a), some (.bl rdy), y6, y7, rfl, ?_, rfl⟩
        refine laid_add I rfl hx (fun b o h1 h2 h3 e => by rw [upd_ne h2, upd_ne h1, upd_ne h3]; exact e) (by rw [upd_ne I.rn, upd_same]) ?_ (by rw [upd_ne I.nw.symm, upd_ne I.rw_.symm, upd_same]) I.n0 I.rn I.nw
          (tpw.trans ((tp_lst hr2).trans (tp_lst (by rw [upd_ne I.rn.symm]; exact hn2)))) ?_ ?_ (by rw [List.length_append]; exact Nat.le_refl _) ?_ ?_
        · rw [upd_same]
          show _ = some (HO.lst (intsV (N ++ [R.length])))
          unfold intsV
          rw [List.map_append, hrs]
          rfl
        · exact ⟨a, rfl, tp_lst (by rw [upd_ne I.rn.symm]; exact hn2) _ _ (tp_lst hr2 _ _ ha)⟩
        · cases rdy
          · rfl
          · show (N.take (N.length - 0) ++ [R.length], _) = _
            rw [Nat.sub_zero, List.take_length]
            rfl
        · have ok := I.ok
          rw [List.length_append]
          cases rdy
          · exact ok
          · exact ok.2
        · cases rdy <;> rfl
      · refine evv_ix ha (evv_var (i := 4) rfl) (evv_c (v := .int ((0 : Nat) : Int))) rfl _ (Same.refl _) _ ⟨aL, leavesV, rfl, .inr (L.2 _), rfl, rfl, false, congrArg V.bl Z.notin, iteF ?_⟩
        have hzl : zs.length = qs.length := hq.len.symm
        have v1 := Z.len1; have v2 := Z.len2
        cases rdy with
        | true =>
          refine ⟨_, rfl, true, rfl, iteT ?_⟩
          refine ⟨_, rfl, a, _, rfl, .inr (sqt ha), _, _, rfl, rfl, ?_⟩
          have ec : (((V.str sn :: zs).length : Nat) : Int) - 1 = ((qs.length : Nat) : Int) := by
            rw [List.length_cons, hzl]
            omega
          change tSeq _ _ _ [some v0, some (.ref lr), some (.ref ln), some (.ref lw), some (.ref a), some (.bl true), some (.int ((((V.str sn :: zs).length : Nat) : Int) - 1)), y7, none] _
          rw [ec]
          have ok := I.ok.1
          rw [Z.cnt] at ok
          have e1 : ((intsV N).length : Int) - ((qs.length : Nat) : Int) = ((N.length - qs.length : Nat) : Int) := by
            rw [intsV_len]
            omega
          refine evv_ix ha (evv_var (i := 4) rfl) (evv_c (v := .int ((0 : Nat) : Int))) rfl _ (Same.refl _) _ ⟨by show 1 ≤ sizeLine; decide, fun t1 ht1 => ?_⟩
          refine ⟨_, rfl, _, rfl, ln, _, rfl, .inl (sql (sw_new ht1 hn2)), _, rfl, _, _, rfl, rfl, _, rfl, ?_⟩
          rw [e1]
          have kl : N.length - qs.length ≤ (intsV N).length := by rw [intsV_len]; omega
          refine ⟨ln, _, rfl, sql (sw_new ht1 hn2), fun p hp => ⟨p, _, rfl, .inl ⟨sql upd_same, fun t2 ht2 => ?_⟩⟩⟩
          rw [cut_from (α := Unit) _ kl] at ht2 ⊢
          have ed : (intsV N).drop (N.length - qs.length) = intsV (N.drop (N.length - qs.length)) := by unfold intsV; rw [List.map_drop]
          rw [ed] at ht2 ⊢
          have dl : (N.drop (N.length - qs.length)).length = qs.length := by rw [List.length_drop]; omega
          have tl : (N.take (N.length - qs.length)).length = N.length - qs.length := by rw [List.length_take]; omega
          have dne : intsV (N.drop (N.length - qs.length)) ≠ [] := fun z => by
            have := congrArg List.length z
            rw [intsV_len, dl] at this
            have this : qs.length = 0 := this
            omega
          refine ⟨t1, t2, _, _, rfl, rfl, sqt (sw_new ht2 (sw_new hp upd_same)), sqt upd_same, sz ?_, fun z => (nomatch z), fun _ z => absurd z dne, fun _ _ t3 ht3 => ?_⟩
          · rw [intsV_len, dl]
            show 1 + qs.length ≤ 100000
            omega
          have s04 : Same (upd H1 lw (.lst xs')) (upd (upd (upd (upd (upd H1 lw (.lst xs')) t1 (.tup [.str sn])) p (.lst (intsV (N.drop (N.length - qs.length))))) t2 (.tup (intsV (N.drop (N.length - qs.length))))) t3 (.tup ([.str sn] ++ intsV (N.drop (N.length - qs.length))))) :=
            (same_new ht1).trans ((same_new hp).trans ((same_new ht2).trans (same_new ht3)))
          have h43 : (upd (upd (upd (upd (upd H1 lw (.lst xs')) t1 (.tup [.str sn])) p (.lst (intsV (N.drop (N.length - qs.length))))) t2 (.tup (intsV (N.drop (N.length - qs.length))))) t3 (.tup ([.str sn] ++ intsV (N.drop (N.length - qs.length))))) t3 = some (.tup ([.str sn] ++ intsV (N.drop (N.length - qs.length)))) := upd_same
          generalize (upd (upd (upd (upd (upd H1 lw (.lst xs')) t1 (.tup [.str sn])) p (.lst (intsV (N.drop (N.length - qs.length))))) t2 (.tup (intsV (N.drop (N.length - qs.length))))) t3 (.tup ([.str sn] ++ intsV (N.drop (N.length - qs.length))))) = G4 at s04 h43 ⊢
          dsimp only
          change tAsg _ _ _ [some v0, some (.ref lr), some (.ref ln), some (.ref lw), some (.ref a), some (.bl true), some (.int ((qs.length : Nat) : Int)), some (.ref t3), none] G4
          refine ⟨_, rfl, _, rfl, ln, _, rfl, .inl (sql (s04 _ _ hn2)), _, rfl, _, _, rfl, rfl, _, rfl, ?_⟩
          rw [e1]
          refine ⟨ln, _, rfl, sql (s04 _ _ hn2), fun p4 hp4 => ⟨_, rfl, _, rfl, lr, rs, .ref t3, rfl, sw_new hp4 (s04 _ _ hr2), by omega, by show 1 ≤ sizeLine; decide, fun p5 hp5 => ?_⟩⟩
          rw [cut_to (α := Unit) _ kl] at hp5 ⊢
          have et : (intsV N).take (N.length - qs.length) = intsV (N.take (N.length - qs.length)) := by unfold intsV; rw [List.map_take]
          rw [et] at hp5 ⊢
          have g5r := sw_new (o := .lst (intsV (N.take (N.length - qs.length)))) hp4 (s04 _ _ hr2)
          have np4 : p4 ≠ lr := (ne_of_none (s04 _ _ hr2) hp4).symm
          refine ⟨p4, p5, _, _, rfl, rfl, sw_new hp5 (by rw [upd_ne np4, upd_same]), upd_same, sz ?_, fun p6 hp6 => ?_⟩
          · rw [intsV_len, tl]
            show N.length - qs.length + 1 ≤ 100000
            omega
          have g6r : upd (upd G4 p4 (.lst (intsV (N.take (N.length - qs.length))))) lr (.lst (rs ++ [.ref t3])) lr = some (.lst (rs ++ [.ref t3])) := upd_same
          have g6w : upd (upd G4 p4 (.lst (intsV (N.take (N.length - qs.length))))) lr (.lst (rs ++ [.ref t3])) lw = some (.lst xs') := by
            rw [upd_ne I.rw_.symm]
            exact sw_new hp4 (s04 _ _ upd_same)
          have s6 : Same H (upd (upd G4 p4 (.lst (intsV (N.take (N.length - qs.length))))) lr (.lst (rs ++ [.ref t3]))) :=
            same_mut (((same_mut I.same I.w0).trans s04).trans (same_new hp4)) I.r0
          have g7r := sw_new (o := .lst [.int ((rs.length : Nat) : Int)]) hp5 g6r
          have g7w := sw_new (o := .lst [.int ((rs.length : Nat) : Int)]) hp5 g6w
          have tp8 : Tp G4 (upd (upd (upd (upd G4 p4 (.lst (intsV (N.take (N.length - qs.length))))) lr (.lst (rs ++ [.ref t3]))) p5 (.lst [.int ((rs.length : Nat) : Int)])) p6 (.lst (intsV (N.take (N.length - qs.length)) ++ [.int ((rs.length : Nat) : Int)]))) :=
            (tp_new hp4).trans ((tp_lst g5r).trans ((tp_new hp5).trans (tp_new hp6)))
          refine ⟨msW W, (by show msW W < 1 + msW W; omega), lr, p6, lw, W, N.take (N.length - qs.length) ++ [R.length], R ++ [mkL pt (N.drop (N.length - qs.length))], xs', rs ++ [.ref t3], _, _, _, _, rfl, ?_, rfl⟩
          refine laid_add I rfl hx (fun b o h1 h2 h3 e => ?_) (sw_new hp6 g7r) ?_ (sw_new hp6 g7w) ((s6.trans (same_new hp5)).free hp6) (ne_of_none g7r hp6) (ne_of_none g7w hp6).symm
            (tpw.trans ((Same.tp s04).trans tp8)) (Z.line _ _ _ dl (tp8 _ _ h43)) (by show (N.take (N.length - pt.cnt) ++ [R.length], R ++ [mkL pt (N.drop (N.length - pt.cnt))]) = _; rw [Z.cnt]) ?_ ?_ rfl
          · refine sw_new hp6 (sw_new hp5 ?_)
            rw [upd_ne h1]
            refine sw_new hp4 (s04 _ _ ?_)
            rw [upd_ne h3]
            exact e
          · rw [upd_same]
            show _ = some (HO.lst (intsV (N.take (N.length - qs.length) ++ [R.length])))
            unfold intsV
            rw [List.map_append, hrs]
            rfl
          · rw [List.length_append, tl]
            show N.length - qs.length + 1 ≤ N.length + 1
            omega
          · have ok2 := I.ok.2
            rw [Z.cnt] at ok2
            rw [List.length_append, tl]
            exact ok2
        | false =>
          refine ⟨_, rfl, false, rfl, iteF ?_⟩
          have hw2 : upd H1 lw (.lst xs') lw = some (.lst xs') := upd_same
          have hxl : xs'.length = W.length := by
            have := hx.length
            rw [List.length_reverse] at this
            exact this.symm
          have hWl : W.length ≤ 6000 := by
            have h1 := len_msW W
            have h2 := msW_rem W
            have h : R.length + (rem1 (pt, false) + remW W) = p0.size := I.cnt
            omega
          refine ⟨_, rfl, .inl ⟨rfl, _, sql hw2⟩, _, rfl, le2, fun t' ht' => ⟨lw, xs', .ref t', rfl, rfl, sw_new ht' hw2, szlt (by omega), ?_⟩⟩
          have tp1 : Tp (upd H1 lw (.lst xs')) (upd (upd (upd H1 lw (.lst xs')) t' (.tup [.ref a, .bl true])) lw (.lst (xs' ++ [.ref t']))) := (tp_new ht').trans (tp_lst (sw_new ht' hw2))
          refine ⟨_, rfl, comp_items (qs := qs) Z.len2 ?ht (fun _ => rfl) (fun _ => rfl) ?q⟩
          case ht =>
            intro Q q
            refine ⟨_, rfl, _, rfl, a, _, rfl, sqt (tp1 _ _ ha), fun z => ?_, fun _ p hp => q p zs _ (same_new hp) ?_ ?_⟩
            · have z1 : min 1 (V.str sn :: zs).length = 0 := z.1
              rw [List.length_cons] at z1
              omega
            · rw [upd_same]
              refine congrArg (fun l => some (HO.tup l)) ?_
              have e := cut_from (α := Unit) (V.str sn :: zs) (k := 1) (by rw [List.length_cons]; omega)
              exact e
            · exact (hq.tp tp1).tp (tp_new hp)
          intro D ys H5 hD s5 h5 hi
          have h5w : H5 lw = some (.lst (xs' ++ [.ref t'])) := s5 _ _ upd_same
          have hyl : ys.length = qs.length := by
            have := hi.length
            rw [List.length_map, List.length_reverse] at this
            exact this.symm
          refine ⟨lw, D, _, _, rfl, rfl, h5w, h5, sz ?_, ?_⟩
          · rw [List.length_append, hyl]
            show xs'.length + 1 + qs.length ≤ 100000
            omega
          have tp5 : Tp (upd H1 lw (.lst xs')) (upd H5 lw (.lst (xs' ++ [.ref t'] ++ ys))) := tp1.trans ((Same.tp s5).trans (tp_lst h5w))
          refine ⟨msW ((qs.map fun p => (p, false)) ++ (pt, true) :: W), Z.ms W, lr, ln, lw, (qs.map fun p => (p, false)) ++ (pt, true) :: W, N, R, xs' ++ [.ref t'] ++ ys, rs, _, _, _, _, rfl, ⟨?_, I.r0, I.n0, I.w0, I.rn, I.rw_, I.nw, ?_, I.rr.tp (tpw.trans tp5), ?_, upd_same, ?_, ?_, I.nr, ?_, ?_⟩, rfl⟩
          · exact same_mut ((same_mut ((same_mut I.same I.w0).trans (same_new ht')) I.w0).trans s5) I.w0
          · rw [upd_ne I.rw_]
            refine s5 _ _ ?_
            rw [upd_ne I.rw_]
            exact sw_new ht' hr2
          · rw [upd_ne I.nw]
            refine s5 _ _ ?_
            rw [upd_ne I.nw]
            exact sw_new ht' hn2
          · rw [List.reverse_append, List.reverse_cons, ← List.map_reverse]
            refine pair_app (Paired.snoc (ItsAt.tp (tpw.trans tp5) hx) ⟨t', .ref a, rfl, ?_, hpw.tp tp5⟩) (ItsAt.tp (tp_lst h5w) hi)
            refine (tp_lst (ys := xs' ++ [.ref t'] ++ ys) h5w) _ _ (s5 _ _ ?_)
            exact tp_lst (sw_new ht' hw2) _ _ upd_same
          · exact Z.ok W N.length I.ok
          · rw [Z.rem]
            exact I.cnt
          · rw [Z.fn]
            exact I.fn
end
end Arc


namespace Arc
open PySem PySem.Spec PyProof.Rows L2
/-! ### walk_for -/
def spWalkFor : Sp := fun vs H Q _ => ∃ v R, vs = [v] ∧ RdAt H R v ∧ Rdr.Ok R ∧ ∀ t rs H', Same H H' → H' t = some (.tup rs) → LinesAt H' (lay (walkP R) 0) rs → Q (.ref t) H'
section
variable {P : Program} {w : World} {K : PySem.W.Frag} {mg : Str → Option Value} {base : Heap}
theorem scWalkFor : FnScope ["reader"] ["reader"] (defScope sWalkFor) := ⟨rfl, rfl, rfl, by decide +kernel, rfl, by decide +kernel, by decide +kernel⟩
theorem ok_walkFor (F : DefAt K mg "walk_for" sWalkFor) (GW : Dn P w K mg base "walk_part" 5 ["reader"] spWalkP) (GL : Dn P w K mg base "laid_out" 2 ["part"] spLaid) : Dn P w K mg base "walk_for" 6 ["reader"] spWalkFor := by
  refine dn_mk F scWalkFor (fun _ _ _ _ _ _ us hl => match us, hl with | [_], _ => rfl) (fun vs H Q E h => ?_) (fun f cdv A outer s H vs Q E hr h => ?_)
  · obtain ⟨v, R, rfl, _⟩ := h
    rfl
  · obtain ⟨v, R, rfl, rd, O, k⟩ := h
    refine ⟨_, (pss_one (ps_ret (pe_dn GL (hr.mono (by decide)) rfl (pa_cons (pe_dn GW hr rfl (pa_cons (pv 0) pa_nil)) pa_nil)))), ?_⟩
    have hb := (bd_walk O).1
    exact ⟨v, rfl, v, R, rfl, rd, O, fun x H1 s1 r1 => ⟨x, walkP R, rfl, r1, by omega, fun t rs H2 s2 h2 h3 => k t rs H2 (s1.trans s2) h2 h3⟩⟩
end
/-! ### texts in the heap -/
def PlRep (H : Hp) (x : Place) (v : V) : Prop := ∃ t, v = .ref t ∧ H t = some (.tup [.str x.1.str, .int (x.2 : Int)])
theorem PlRep.tp {H H' : Hp} (e : Tp H H') {x : Place} {v : V} (h : PlRep H x v) : PlRep H' x v := by
  obtain ⟨t, h1, h2⟩ := h
  exact ⟨t, h1, e _ _ h2⟩
def PlsAt (H : Hp) (row : List Place) (xs : List V) : Prop := Paired (PlRep H) row xs
theorem PlsAt.tp {H H' : Hp} (e : Tp H H') {row : List Place} {xs : List V} (h : PlsAt H row xs) : PlsAt H' row xs := Paired.mapP h fun _ _ r => r.tp e
/-- the stack of what is open: (value ahead, label) -/
def OpRep (H : Hp) (x : Nat × Nat) (v : V) : Prop := ∃ t, v = .ref t ∧ H t = some (.tup [.int (x.1 : Int), .int (x.2 : Int)])
def OpsAt (H : Hp) (st : List (Nat × Nat)) (xs : List V) : Prop := Paired (OpRep H) st.reverse xs
theorem OpsAt.tp {H H' : Hp} (e : Tp H H') {st : List (Nat × Nat)} {xs : List V} (h : OpsAt H st xs) : OpsAt H' st xs := Paired.mapP h fun _ _ ⟨t, h1, h2⟩ => ⟨t, h1, e _ _ h2⟩
/-! ### sets in the heap -/
structure SetsAt (H0 H : Hp) (ls : Addr) (ps : List Addr) (c : Nat → List Nat) : Prop where
  new : H0 ls = none
  top : H ls = some (.lst (ps.map V.ref))
  nd : ps.Nodup
  at_ : ∀ (i : Nat) (p : Addr), ps[i]? = some p → H0 p = none ∧ p ≠ ls ∧ H p = some (.lst (intsV (c i)))
theorem SetsAt.out {H0 H : Hp} {ls : Addr} {ps : List Addr} {c : Nat → List Nat} (S : SetsAt H0 H ls ps c) {b : Addr} {o : HO} (h : H b = some o) (hn : ∀ xs, o ≠ .lst xs) : ∀ i : Nat, ps[i]? ≠ some b := fun i e => by
  obtain ⟨_, _, h3⟩ := S.at_ i b e
  rw [h] at h3
  exact hn _ (Option.some.inj h3)
theorem SetsAt.mono {H0 H H1 : Hp} {ls : Addr} {ps : List Addr} {c : Nat → List Nat} (S : SetsAt H0 H ls ps c) (e : ∀ b, (b = ls ∨ ∃ i : Nat, ps[i]? = some b) → ∀ o, H b = some o → H1 b = some o) : SetsAt H0 H1 ls ps c :=
  ⟨S.new, e _ (.inl rfl) _ S.top, S.nd, fun i p h => ⟨(S.at_ i p h).1, (S.at_ i p h).2.1, e _ (.inr ⟨i, h⟩) _ (S.at_ i p h).2.2⟩⟩
theorem SetsAt.same {H0 H H1 : Hp} {ls : Addr} {ps : List Addr} {c : Nat → List Nat} (S : SetsAt H0 H ls ps c) (e : Same H H1) : SetsAt H0 H1 ls ps c := S.mono fun b _ o h => e b o h
/-- k goes into set i -/
theorem SetsAt.put {H0 H : Hp} {ls p : Addr} {ps : List Addr} {c c' : Nat → List Nat} {i k : Nat} (S : SetsAt H0 H ls ps c) (h : ps[i]? = some p) (e : c' i = c i ++ [k]) (ne : ∀ j, j < ps.length → j ≠ i → c' j = c j) :
    SetsAt H0 (upd H p (.lst (intsV (c i) ++ [.int (k : Int)]))) ls ps c' := by
  obtain ⟨h1, h2, h3⟩ := S.at_ i p h
  refine ⟨S.new, by rw [upd_ne h2.symm]; exact S.top, S.nd, fun j q hj => ?_⟩
  obtain ⟨h4, h5, h6⟩ := S.at_ j q hj
  refine ⟨h4, h5, ?_⟩
  by_cases hji : j = i
  · subst hji
    rw [h] at hj
    cases hj
    rw [upd_same, e]
    unfold intsV
    rw [List.map_append]
    rfl
  · have hq : q ≠ p := fun z => by rw [z] at hj; exact hji (nd_ix S.nd hj h)
    rw [upd_ne hq, h6, ne j (List.getElem?_eq_some_iff.mp hj).1 hji]
section
variable {K : PySem.W.Frag} {σ : St} {H0 H : Hp} {ti : TE} {u : TS} {D : Ends}
theorem q_put {a b ls : Nat} {ps : List Addr} {c : Nat → List Nat} {i k : Nat} (S : SetsAt H0 H ls ps c) (h1 : σ[a]? = some (some (.ref ls))) (hi : EvV ti σ H (.int (i : Int))) (hk : σ[b]? = some (some (.int (k : Int)))) (hlt : i < ps.length) (hlen : (c i).length ≤ 1000)
    (kont : ∀ p, ps[i]? = some p → u D σ (upd H p (.lst (intsV (c i) ++ [.int (k : Int)])))) :
    tSeq (tDrop (tBM K "list" rAppend (tOp (rIxL K) (tVar a) ti) (tCons (tVar b) tNil))) u D σ H := by
  obtain ⟨p, hp⟩ : ∃ p, ps[i]? = some p := ⟨ps[i], List.getElem?_eq_getElem hlt⟩
  obtain ⟨h4, h5, h6⟩ := S.at_ i p hp
  refine ⟨_, h1, hi H (Same.refl _) _ ⟨ls, _, _, .ref p, rfl, rfl, sql S.top, atI_nat (by rw [List.getElem?_map, hp]; rfl), .inl ⟨rfl, _, sql h6⟩, _, hk, p, _, _, rfl, rfl, h6, szlt (by rw [intsV_len]; omega), kont p hp⟩⟩
end
/-! ### how the sets of the document grow -/
def cK (R : Rdr) (row : List Place) (k i : Nat) : List Nat := (docK R row k).getD i []
theorem docV_succ (R : Rdr) (row : List Place) (k v : Nat) : docV R row (k + 1) v = docV R row k v ++ if valAt R row k = v then [k] else [] := by
  unfold docV
  rw [List.range_succ, List.filter_append]
  congr 1
  by_cases e : valAt R row k = v
  · rw [if_pos e, List.filter_cons, if_pos (decide_eq_true e)]
    rfl
  · rw [if_neg e, List.filter_cons, if_neg (by rw [decide_eq_false e]; decide)]
    rfl
theorem docI_succ (R : Rdr) (row : List Place) (k u : Nat) : docI R row (k + 1) u = docI R row k u ++ if isRet row k = true ∧ (stA R row k).1 = u then [k] else [] := by
  unfold docI
  rw [List.range_succ, List.filter_append]
  congr 1
  by_cases e : isRet row k = true ∧ (stA R row k).1 = u
  · rw [if_pos e, List.filter_cons, if_pos (by rw [e.1, decide_eq_true e.2]; rfl)]
    rfl
  · rw [if_neg e, List.filter_cons, if_neg]
    · rfl
    · intro z
      rw [Bool.and_eq_true, decide_eq_true_iff] at z
      exact e z
theorem idx_split {R : Rdr} {i : Nat} (h : i < 2 * R.n) : i < R.n ∨ ∃ u, u < R.n ∧ i = R.n + u := by
  by_cases h1 : i < R.n
  · exact .inl h1
  · exact .inr ⟨i - R.n, by omega, by omega⟩
theorem cK_len {R : Rdr} {row : List Place} {k i : Nat} (h : i < 2 * R.n) : (cK R row k i).length ≤ k := by
  unfold cK
  rcases idx_split h with h | ⟨u, hu, rfl⟩
  · rw [docK_v h]
    have := List.length_filter_le (fun j => decide (valAt R row j = i)) (List.range k)
    rw [List.length_range] at this
    exact this
  · rw [docK_i hu]
    have := List.length_filter_le (fun j => isRet row j && decide ((stA R row j).1 = u)) (List.range k)
    rw [List.length_range] at this
    exact this
theorem cK_zero {R : Rdr} {row : List Place} {i : Nat} (h : i < 2 * R.n) : cK R row 0 i = [] := by
  have := cK_len (row := row) (k := 0) h
  exact List.length_eq_zero_iff.mp (by omega)
/-- at a letter or a call -/
theorem cK_one {R : Rdr} {row : List Place} {k : Nat} (hr : isRet row k = false) (hv : valAt R row k < R.n) :
    cK R row (k + 1) (valAt R row k) = cK R row k (valAt R row k) ++ [k] ∧ ∀ j, j < 2 * R.n → j ≠ valAt R row k → cK R row (k + 1) j = cK R row k j := by
  unfold cK
  refine ⟨by rw [docK_v hv, docK_v hv, docV_succ, if_pos rfl], fun j hj ne => ?_⟩
  rcases idx_split hj with h | ⟨u, h, rfl⟩
  · rw [docK_v h, docK_v h, docV_succ, if_neg ne.symm, List.append_nil]
  · rw [docK_i h, docK_i h, docI_succ, if_neg (by rw [hr]; simp), List.append_nil]
/-- at a return: first the inner value, then the value -/
def cR (R : Rdr) (row : List Place) (k i : Nat) : List Nat := if i = R.n + (stA R row k).1 then cK R row k i ++ [k] else cK R row k i
theorem cR_at {R : Rdr} {row : List Place} {k : Nat} : cR R row k (R.n + (stA R row k).1) = cK R row k (R.n + (stA R row k).1) ++ [k] ∧ ∀ j, j ≠ R.n + (stA R row k).1 → cR R row k j = cK R row k j :=
  ⟨by unfold cR; rw [if_pos rfl], fun j h => by unfold cR; rw [if_neg h]⟩
theorem cK_ret {R : Rdr} {row : List Place} {k : Nat} (hr : isRet row k = true) (hv : valAt R row k < R.n) (hx : (stA R row k).1 < R.n) :
    cK R row (k + 1) (valAt R row k) = cR R row k (valAt R row k) ++ [k] ∧ ∀ j, j < 2 * R.n → j ≠ valAt R row k → cK R row (k + 1) j = cR R row k j := by
  refine ⟨?_, fun j hj ne => ?_⟩
  · rw [cR_at.2 _ (by omega)]
    unfold cK
    rw [docK_v hv, docK_v hv, docV_succ, if_pos rfl]
  · rcases idx_split hj with h | ⟨u, h, rfl⟩
    · rw [cR_at.2 _ (by omega)]
      unfold cK
      rw [docK_v h, docK_v h, docV_succ, if_neg ne.symm, List.append_nil]
    · by_cases e : u = (stA R row k).1
      · rw [e, cR_at.1]
        unfold cK
        rw [docK_i hx, docK_i hx, docI_succ, if_pos ⟨hr, rfl⟩]
      · rw [cR_at.2 _ (by omega)]
        unfold cK
        rw [docK_i h, docK_i h, docI_succ, if_neg (fun z => e z.2.symm), List.append_nil]
/-! ### words -/
theorem k_cc : decide (V.str (LK.str .call) = V.str "call") = true := decide_eq_true rfl
theorem k_rc : decide (V.str (LK.str .ret) = V.str "call") = false := by decide +kernel
theorem k_lc : decide (V.str (LK.str .letter) = V.str "call") = false := by decide +kernel
theorem k_rr : decide (V.str (LK.str .ret) = V.str "return") = true := decide_eq_true rfl
theorem k_lr : decide (V.str (LK.str .letter) = V.str "return") = false := by decide +kernel
theorem k_ll : decide (V.str (LK.str .letter) = V.str "letter") = true := decide_eq_true rfl
theorem k_cl : decide (V.str (LK.str .call) = V.str "letter") = false := by decide +kernel
theorem k_rl : decide (V.str (LK.str .ret) = V.str "letter") = false := by decide +kernel
theorem k_cr : decide (V.str (LK.str .call) = V.str "return") = false := by decide +kernel
theorem tup2 {H0 H : Hp} {ls : Addr} {ps : List Addr} {c : Nat → List Nat} (S : SetsAt H0 H ls ps c) {p : Addr} {i : Nat} {xs : List V} (hp : ps[i]? = some p) : Tp H (upd H p (.lst xs)) := tp_lst (S.at_ i p hp).2.2
end Arc


namespace Arc
open PySem PySem.Spec PyProof.Rows L2
theorem q_raw {te : TE} {i : Nat} {u : TS} {D : Ends} {σ : St} {H : Hp} (h : te σ H (fun x H1 => u D (σ.set i (some x)) H1)) : tSeq (tAsg te (gName i)) u D σ H := h
theorem l_raw {te : TE} {i : Nat} {D : Ends} {σ : St} {H : Hp} (h : te σ H (fun x H1 => D.nx (σ.set i (some x)) H1)) : tAsg te (gName i) D σ H := h
theorem l_put {K : PySem.W.Frag} {σ : St} {H0 H : Hp} {ti : TE} {D : Ends} {a b ls : Nat} {ps : List Addr} {c : Nat → List Nat} {i k : Nat} (S : SetsAt H0 H ls ps c) (h1 : σ[a]? = some (some (.ref ls))) (hi : EvV ti σ H (.int (i : Int))) (hk : σ[b]? = some (some (.int (k : Int)))) (hlt : i < ps.length) (hlen : (c i).length ≤ 1000)
    (kont : ∀ p, ps[i]? = some p → D.nx σ (upd H p (.lst (intsV (c i) ++ [.int (k : Int)])))) :
    tDrop (tBM K "list" rAppend (tOp (rIxL K) (tVar a) ti) (tCons (tVar b) tNil)) D σ H := q_put (u := tNext) S h1 hi hk hlt hlen kont
/-! ### sets_for -/
def spSets : Sp := fun vs H Q _ => ∃ v R row a xs, vs = [v, .ref a] ∧ RdAt H R v ∧ Rdr.Ok R ∧ H a = some (.lst xs) ∧ PlsAt H row xs ∧ RowOk R row ∧ row.length ≤ 100 ∧
  ∀ ls ps H', Same H H' → SetsAt H H' ls ps (cK R row row.length) → ps.length = 2 * R.n → Q (.ref ls) H'
structure SetsInv (R : Rdr) (row : List Place) (H0 H : Hp) (ls : Addr) (ps : List Addr) (lo : Addr) (os : List V) (k : Nat) : Prop where
  same : Same H0 H
  sets : SetsAt H0 H ls ps (cK R row k)
  len : ps.length = 2 * R.n
  o0 : H0 lo = none
  onl : lo ≠ ls
  onp : ∀ i : Nat, ps[i]? ≠ some lo
  ho : H lo = some (.lst os)
  ops : OpsAt H (stA R row k).2 os
theorem SetsInv.ext {R : Rdr} {row : List Place} {H0 H H1 : Hp} {ls : Addr} {ps : List Addr} {lo : Addr} {os : List V} {k : Nat} (I : SetsInv R row H0 H ls ps lo os k) (e : Same H H1) : SetsInv R row H0 H1 ls ps lo os k :=
  ⟨I.same.trans e, I.sets.same e, I.len, I.o0, I.onl, I.onp, e _ _ I.ho, I.ops.tp (Same.tp e)⟩
theorem SetsInv.step {R : Rdr} {row : List Place} {H0 H H4 : Hp} {ls : Addr} {ps : List Addr} {lo : Addr} {os os' : List V} {k : Nat} (I : SetsInv R row H0 H ls ps lo os k)
    (e : ∀ b o, b ≠ lo → (∀ i : Nat, ps[i]? ≠ some b) → H b = some o → H4 b = some o) (S : SetsAt H0 H4 ls ps (cK R row (k + 1))) (ho : H4 lo = some (.lst os')) (op : OpsAt H4 (stA R row (k + 1)).2 os') : SetsInv R row H0 H4 ls ps lo os' (k + 1) :=
  ⟨fun b o h => e b o (ne_of_none h I.o0) (fun i hi => by rw [(I.sets.at_ i b hi).1] at h; cases h) (I.same b o h), S, I.len, I.o0, I.onl, I.onp, ho, op⟩
theorem opn_len (row : List Place) : ∀ k, (opn row k).length ≤ k
  | 0 => Nat.le_refl 0
  | k + 1 => by
    have := opn_len row k
    show (match row[k]? with
      | some (.call, _) => k :: opn row k
      | some (.ret, _) => (opn row k).tail
      | _ => opn row k).length ≤ k + 1
    split
    · rw [List.length_cons]
      omega
    · rw [List.length_tail]
      omega
    · omega
theorem stk_len {R : Rdr} {row : List Place} (W : RowOk R row) {k : Nat} (h : k ≤ row.length) : (stA R row k).2.length ≤ k := by
  rw [(opn_ok W k h).2, List.length_map]
  exact opn_len row k
theorem ops_len {H : Hp} {st : List (Nat × Nat)} {os : List V} (h : OpsAt H st os) : os.length = st.length := by
  have := h.length
  rw [List.length_reverse] at this
  exact this.symm
/-- the innermost open call -/
theorem stk_top {R : Rdr} {row : List Place} (W : RowOk R row) {k b : Nat} (e : row[k]? = some (.ret, b)) (h : k ≤ row.length) : ∃ u a t, (stA R row k).2 = (u, a) :: t := by
  have ne := W.pre k b e
  have h2 := (opn_ok W k h).2
  cases ho : opn row k with
  | nil => exact absurd ho ne
  | cons i t =>
    rw [ho, List.map_cons] at h2
    exact ⟨_, _, _, h2⟩
section
variable {P : Program} {w : World} {K : PySem.W.Frag} {mg : Str → Option Value} {base : Heap}
/-- [[] for _ in range(n)] -/
theorem comp_lists {σ : St} {H : Hp} {tn : TE} {n j : Nat} (hn : ∀ Q : VK, Q (.int (n : Int)) H → tn σ H Q) (hz : n ≤ 1000) (hw : ∀ x, wipe ((wipe σ [j]).set j (some x)) [j] = wipe σ [j]) {Q : VK}
    (q : ∀ ls ps H2, Same H H2 → SetsAt H H2 ls ps (fun _ => []) → ps.length = n → Q (.ref ls) H2) :
    tLc (iRng1 (tCons tn tNil)) (gName j) tYes (tLst tNil) [j] σ H Q :=
  hn _ ⟨(n : Int), rfl, by omega, by omega, fun D hD => lc_it (n := n) (by rw [Int.toNat_natCast]; exact walk_range) (fun i H' => ∃ ps, ps.length = i ∧ Same H H' ∧ SetsAt H H' D ps (fun _ => []))
    ⟨[], rfl, same_new hD, hD, upd_same, List.nodup_nil, fun i p h => by simp at h⟩ (fun _ _ _ _ => trivial) (fun i x H2 H3 hi hP hy => by
      obtain ⟨rfl, rfl⟩ := hy
      obtain ⟨ps, hl, s, S⟩ := hP
      refine ⟨hw _, Nat.zero_le _, fun p hp => ⟨ps.map V.ref, same_new hp _ _ S.top, szlt (by rw [List.length_map]; omega), ps ++ [p], by rw [List.length_append, hl]; rfl, ?_, S.new, ?_, ?_, fun i q hq => ?_⟩⟩
      · exact same_mut (s.trans (same_new hp)) S.new
      · rw [upd_same, List.map_append]
        rfl
      · rw [List.nodup_append]
        refine ⟨S.nd, by simp, fun a ha b hb e => ?_⟩
        rw [List.mem_singleton] at hb
        obtain ⟨i, hi⟩ := List.mem_iff_getElem?.mp ha
        have := (S.at_ i a hi).2.2
        rw [e, hb, hp] at this
        cases this
      · have pD : p ≠ D := (ne_of_none S.top hp).symm
        by_cases hlt : i < ps.length
        · rw [List.getElem?_append_left hlt] at hq
          obtain ⟨h1, h2, h3⟩ := S.at_ i q hq
          refine ⟨h1, h2, ?_⟩
          rw [upd_ne h2]
          exact same_new hp _ _ h3
        · rw [List.getElem?_append_right (by omega)] at hq
          have e : i - ps.length = 0 := by
            have := (List.getElem?_eq_some_iff.mp hq).1
            rw [List.length_singleton] at this
            omega
          rw [e] at hq
          have e2 : p = q := Option.some.inj hq
          subst e2
          refine ⟨s.free hp, pD, ?_⟩
          rw [upd_ne pD, upd_same]
          rfl) (fun H' hP => by
      obtain ⟨ps, hl, s, S⟩ := hP
      exact q D ps H' s S hl)⟩
abbrev nSets : List Str := ["reader", "text", "_", "empty", "letters", "mul", "wrap", "count", "sets", "value_now", "opened", "number", "kind", "label", "ahead", "call"]
theorem scSets : FnScope nSets ["reader", "text"] (defScope sSets) := ⟨rfl, rfl, rfl, by decide +kernel, rfl, by decide +kernel, by decide +kernel⟩
theorem ok_sets (F : DefAt K mg "sets_for" sSets) (T : Tx mg) : Dn P w K mg base "sets_for" 1 ["reader", "text"] spSets := by
  refine dn_mk F scSets (fun _ _ _ _ _ _ us hl => match us, hl with | [_, _], _ => rfl) (fun vs H Q E h => ?_) (fun f cdv A outer s H vs Q E hr h => ?_)
  · obtain ⟨v, R, row, a, xs, rfl, _⟩ := h
    rfl
  · obtain ⟨v, R, row, at_, xs, rfl, ⟨a, la, le, mu, wr, ac, ms, ws, rfl, rd⟩, O, hA, hrow, W, hlen, k⟩ := h
    refine ⟨_, (pss_cons (ps_asg (pv 0) (pg_tup rfl (pgs_cons (pg_name (i := 2) scSets.nd rfl (.inl rfl)) (pgs_cons (pg_name (i := 3) scSets.nd rfl (.inl rfl)) (pgs_cons (pg_name (i := 4) scSets.nd rfl (.inl rfl)) (pgs_cons (pg_name (i := 5) scSets.nd rfl (.inl rfl)) (pgs_cons (pg_name (i := 6) scSets.nd rfl (.inl rfl)) (pgs_cons (pg_name (i := 2) scSets.nd rfl (.inl rfl)) pgs_nil))))))))
      (pss_cons (ps_set (i := 7) scSets.nd rfl (.inl rfl) (pe_callB (r := tLenS K) call_lenS (by rfl) T.len PySem.boot_len (pa_cons (pv 5) pa_nil)))
      (pss_cons (ps_setLc (i := 8) (own := [("_", 2)]) (g := gName 2) (tt := tYes) rfl scSets.nd rfl rfl (sw_true rfl rfl rfl (by decide +kernel)) (pi_range1 rfl T.range (pa_cons (pe_op op_mul pe_int (pv 7)) pa_nil)) (blkOk_by (N := nSets) (sc := defScope sSets) (by decide +kernel)) (fun _ _ _ _ _ => (pg_name (i := 2) scSets.nd rfl (.inl rfl))) (fun _ _ _ _ _ => pts_nil) (fun _ _ _ _ _ => (pe_lst pa_nil)))
      (pss_cons (ps_set (i := 9) scSets.nd rfl (.inl rfl) (pv 3))
      (pss_cons (ps_set (i := 10) scSets.nd rfl (.inl rfl) (pe_lst pa_nil))
      (pss_cons (ps_for PassesOwn.never rfl (pi_enum (by rfl) T.enumerate (pa_cons (pv 1) pa_nil)) (pg_tup rfl (pgs_cons (pg_name (i := 11) scSets.nd rfl (.inl rfl)) (pgs_cons (pg_tup rfl (pgs_cons (pg_name (i := 12) scSets.nd rfl (.inl rfl)) (pgs_cons (pg_name (i := 13) scSets.nd rfl (.inl rfl)) pgs_nil))) pgs_nil)))
        (pss_one (ps_if (pt_cmpR op_eq (pv 12) pe_str (nomark _))
          (pss_cons (ps_expr (pe_bm PySem.F.plainAttrs_list PySem.F.slot_list_append PySem.F.type_list_append mt_append (pe_ix (r := rIxL K) ix_list (pv 8) (pv 9) (fun _ _ => rfl)) (pa_cons (pv 11) pa_nil)))
          (pss_cons (ps_expr (pe_bm PySem.F.plainAttrs_list PySem.F.slot_list_append PySem.F.type_list_append mt_append (pv 10) (pa_cons (pe_tup (pa_cons (pv 9) (pa_cons (pv 13) pa_nil))) pa_nil)))
          (pss_one (ps_set (i := 9) scSets.nd rfl (.inl rfl) (pv 3)))))
          (pss_one (ps_if (pt_cmpR op_eq (pv 12) pe_str (nomark _))
            (pss_cons (ps_asg (pe_bm0 PySem.F.plainAttrs_list PySem.F.slot_list_pop PySem.F.type_list_pop mt_pop (pv 10)) (pg_tup rfl (pgs_cons (pg_name (i := 14) scSets.nd rfl (.inl rfl)) (pgs_cons (pg_name (i := 15) scSets.nd rfl (.inl rfl)) pgs_nil))))
            (pss_cons (ps_expr (pe_bm PySem.F.plainAttrs_list PySem.F.slot_list_append PySem.F.type_list_append mt_append (pe_ix (r := rIxL K) ix_list (pv 8) (pe_op op_add (pv 7) (pv 9)) (fun _ _ => rfl)) (pa_cons (pv 11) pa_nil)))
            (pss_cons (ps_set (i := 9) scSets.nd rfl (.inl rfl) (pe_ix (r := rIxT K) ix_tup (pe_ix (r := rIxT K) ix_tup (pv 5) (pv 14) (fun _ _ => rfl)) (pe_ix (r := rIxT K) ix_tup (pe_ix (r := rIxT K) ix_tup (pe_ix (r := rIxT K) ix_tup (pv 6) (pv 15) (fun _ _ => rfl)) (pv 13) (fun _ _ => rfl)) (pv 9) (fun _ _ => rfl)) (fun _ _ => rfl)))
            (pss_one (ps_expr (pe_bm PySem.F.plainAttrs_list PySem.F.slot_list_append PySem.F.type_list_append mt_append (pe_ix (r := rIxL K) ix_list (pv 8) (pv 9) (fun _ _ => rfl)) (pa_cons (pv 11) pa_nil)))))))
            (pss_cons (ps_set (i := 9) scSets.nd rfl (.inl rfl) (pe_ix (r := rIxT K) ix_tup (pe_ix (r := rIxT K) ix_tup (pv 5) (pv 9) (fun _ _ => rfl)) (pe_ix (r := rIxT K) ix_tup (pv 4) (pv 13) (fun _ _ => rfl)) (fun _ _ => rfl)))
            (pss_one (ps_expr (pe_bm PySem.F.plainAttrs_list PySem.F.slot_list_append PySem.F.type_list_append mt_append (pe_ix (r := rIxL K) ix_list (pv 8) (pv 9) (fun _ _ => rfl)) (pa_cons (pv 11) pa_nil))))))))))
      (pss_one (ps_ret (pv 8))))))))), ?_⟩
    have n3 := O.n3; have n1 := O.n1
    refine ⟨_, rfl, a, _, rfl, sqt rd.top, rfl, _, _, rfl, _, _, rfl, _, _, rfl, _, _, rfl, _, _, rfl, _, _, rfl, rfl, ?_⟩
    change tSeq _ _ _ [some (.ref a), some (.ref at_), some (.ref ac), some (.int 0), some (.ref le), some (.ref mu), some (.ref wr), none, none, none, none, none, none, none, none, none] H
    refine q_setV (evv_is (evv_lenT rd.mul (evv_var (i := 5) rfl)) (by rw [rd.mulR.1])) ?_
    change tSeq _ _ _ [some (.ref a), some (.ref at_), some (.ref ac), some (.int 0), some (.ref le), some (.ref mu), some (.ref wr), some (.int (R.n : Int)), none, none, none, none, none, none, none, none] H
    refine q_raw (comp_lists (n := 2 * R.n) (j := 2) (fun Q q => ⟨_, rfl, _, _, rfl, rfl, .inl ⟨by decide, by decide⟩, by rw [Int.natCast_mul] at q; exact q⟩) (by omega) (fun _ => rfl) fun ls ps H1 s1 S1 hl => ?_)
    change tSeq _ _ _ [some (.ref a), some (.ref at_), some (.ref ac), some (.int 0), some (.ref le), some (.ref mu), some (.ref wr), some (.int (R.n : Int)), some (.ref ls), none, none, none, none, none, none, none] H1
    refine ⟨_, rfl, Nat.zero_le _, fun lo hlo => ?_⟩
    change tSeq _ _ _ [some (.ref a), some (.ref at_), some (.ref ac), some (.int 0), some (.ref le), some (.ref mu), some (.ref wr), some (.int (R.n : Int)), some (.ref ls), some (.int ((0 : Nat) : Int)), some (.ref lo), none, none, none, none, none] _
    have I0 : SetsInv R row H (upd H1 lo (.lst [])) ls ps lo [] 0 := by
      refine ⟨s1.trans (same_new hlo), ⟨S1.new, same_new hlo _ _ S1.top, S1.nd, fun i p h => ?_⟩, hl, s1.free hlo, (ne_of_none S1.top hlo).symm, fun i e => ?_, upd_same, .nil⟩
      · obtain ⟨h1, h2, h3⟩ := S1.at_ i p h
        refine ⟨h1, h2, ?_⟩
        rw [cK_zero (by rw [← hl]; exact (List.getElem?_eq_some_iff.mp h).1)]
        exact same_new hlo _ _ h3
      · have := (S1.at_ i lo e).2.2
        rw [hlo] at this
        cases this
    refine ⟨_, rfl, at_, xs, rfl, sql (I0.same _ _ hA), for_it walk_enum (fun i σ H' => i ≤ row.length ∧ ∃ os y11 y12 y13 y14 y15, σ = [some (.ref a), some (.ref at_), some (.ref ac), some (.int 0), some (.ref le), some (.ref mu), some (.ref wr), some (.int (R.n : Int)), some (.ref ls), some (.int (((stA R row i).1 : Nat) : Int)), some (.ref lo), y11, y12, y13, y14, y15] ∧ SetsInv R row H H' ls ps lo os i)
      ⟨Nat.zero_le _, [], none, none, none, none, none, rfl, I0⟩ (fun i σ H' _ ⟨_, _, _, _, _, _, _, _, I⟩ => sql (I.same _ _ hA)) ?_ ?_⟩
    · rintro i v σ H2 H3 hi ⟨_, os, y11, y12, y13, y14, y15, rfl, I⟩ ⟨t, n, x, rfl, ht, rfl, en, ex⟩
      have en : V.int ((i : Nat) : Int) = n := Option.some.inj en
      subst en
      rw [← hrow.length] at hi
      obtain ⟨pl, hpl, t2, rfl, h2⟩ := pair_get hrow ex
      have st := same_new (o := .tup [.int ((i : Nat) : Int), .ref t2]) ht
      have h2' := st _ _ (I.same _ _ h2)
      refine ⟨t, _, rfl, sqt upd_same, rfl, _, _, rfl, _, _, rfl, ⟨t2, _, rfl, sqt h2', rfl, _, _, rfl, _, _, rfl, rfl, rfl, ?_⟩⟩
      dsimp only
      change tIfS _ _ _ _ [some (.ref a), some (.ref at_), some (.ref ac), some (.int 0), some (.ref le), some (.ref mu), some (.ref wr), some (.int (R.n : Int)), some (.ref ls), some (.int (((stA R row i).1 : Nat) : Int)), some (.ref lo), some (.int ((i : Nat) : Int)), some (.str pl.1.str), some (.int (pl.2 : Int)), y14, y15] _
      have I2 := I.ext st
      have rd2 := rd.same I2.same
      generalize upd H2 t (.tup [.int ((i : Nat) : Int), .ref t2]) = H4 at I2 rd2 st ⊢
      have hst := stA_lt O W i (by omega)
      have hval := valAt_lt O W hi
      have hil : ∀ j, j < 2 * R.n → (cK R row i j).length ≤ 1000 := fun j hj => by
        have := cK_len (row := row) (k := i) hj
        omega
      have hps := I2.len
      have hol := ops_len I2.ops
      have hsl := stk_len W (k := i) (by omega)
      rcases kinds W hi with ⟨lb, e, hlb⟩ | ⟨lb, e, hlb⟩ | ⟨lb, e, hlb, ne⟩
      · -- a letter
        rw [hpl] at e
        cases e
        have ev : (stA R row (i + 1)).1 = R.mul (stA R row i).1 (R.letters lb) := by rw [stA_letter hpl]
        have evl : valAt R row i = R.mul (stA R row i).1 (R.letters lb) := by rw [val_letter hpl, ev]
        have hr0 : isRet row i = false := by unfold isRet; rw [hpl]
        have c1 := cK_one hr0 hval
        rw [evl] at c1 hval
        refine ⟨_, rfl, rfl, false, congrArg V.bl k_lc, iteF ⟨_, rfl, rfl, false, congrArg V.bl k_lr, iteF ?_⟩⟩
        refine q_setV (evv_mul rd2 (evv_var (i := 5) rfl) (evv_var (i := 9) rfl) (evv_let rd2 (evv_var (i := 4) rfl) (evv_var (i := 13) rfl) hlb) hst.1 (O.letters _ hlb)) ?_
        refine l_put (σ := [some (.ref a), some (.ref at_), some (.ref ac), some (.int 0), some (.ref le), some (.ref mu), some (.ref wr), some (.int (R.n : Int)), some (.ref ls), some (.int ((R.mul (stA R row i).1 (R.letters lb) : Nat) : Int)), some (.ref lo), some (.int ((i : Nat) : Int)), some (.str (LK.str .letter)), some (.int (lb : Int)), y14, y15]) (i := R.mul (stA R row i).1 (R.letters lb)) (k := i) I2.sets (a := 8) (b := 11) rfl (evv_var (i := 9) rfl) rfl (by omega) (hil _ (by omega)) fun p hp => ?_
        refine ⟨hi, os, _, _, _, _, _, by rw [ev], I2.step (fun b o h1 h2 h3 => by rw [upd_ne (fun z => h2 _ (z ▸ hp))]; exact h3) (I2.sets.put hp c1.1 fun j hj ne => c1.2 j (by omega) ne) ?_ ?_⟩
        · rw [upd_ne (fun z => I2.onp _ (z ▸ hp))]
          exact I2.ho
        · rw [stA_letter hpl]
          exact I2.ops.tp (tup2 I2.sets hp)
      · -- a call
        rw [hpl] at e
        cases e
        have ev : (stA R row (i + 1)).1 = 0 := by rw [stA_call hpl]
        have evl : valAt R row i = (stA R row i).1 := val_call hpl
        have hr0 : isRet row i = false := by unfold isRet; rw [hpl]
        have c1 := cK_one hr0 hval
        rw [evl] at c1 hval
        refine ⟨_, rfl, rfl, true, congrArg V.bl k_cc, iteT ?_⟩
        refine q_put I2.sets (a := 8) (b := 11) rfl (evv_var (i := 9) rfl) rfl (by omega) (hil _ (by omega)) fun p hp => ?_
        have S2 := I2.sets.put hp c1.1 fun j hj ne => c1.2 j (by omega) ne
        have tp2 := tup2 (xs := intsV (cK R row i (stA R row i).1) ++ [.int (i : Int)]) I2.sets hp
        have lop : lo ≠ p := fun z => I2.onp _ (z ▸ hp)
        have ho2 : upd H4 p (.lst (intsV (cK R row i (stA R row i).1) ++ [.int (i : Int)])) lo = some (.lst os) := by rw [upd_ne lop]; exact I2.ho
        refine ⟨_, rfl, .inl ⟨rfl, _, sql ho2⟩, _, rfl, _, rfl, le2, fun t5 h5 => ⟨lo, os, .ref t5, rfl, rfl, sw_new h5 ho2, szlt (by omega), ?_⟩⟩
        refine ⟨_, rfl, ?_⟩
        have tp3 := (tp_new (o := .tup [.int (((stA R row i).1 : Nat) : Int), .int (lb : Int)]) h5).trans (tp_lst (ys := os ++ [.ref t5]) (sw_new h5 ho2))
        refine ⟨hi, os ++ [.ref t5], _, _, _, _, _, by rw [ev]; rfl, I2.step (fun b o h1 h2 h3 => ?_) ?_ upd_same ?_⟩
        · rw [upd_ne h1]
          refine sw_new h5 ?_
          rw [upd_ne (fun z => h2 _ (z ▸ hp))]
          exact h3
        · refine (S2.same (same_new (o := .tup [.int (((stA R row i).1 : Nat) : Int), .int (lb : Int)]) h5)).mono fun b hb o h => ?_
          rw [upd_ne]
          · exact h
          · rintro rfl
            rcases hb with hb | ⟨j, hj⟩
            · exact I2.onl hb
            · exact I2.onp j hj
        · rw [stA_call hpl]
          show Paired _ (((stA R row i).1, lb) :: (stA R row i).2).reverse _
          rw [List.reverse_cons]
          refine Paired.snoc ((I2.ops.tp tp2).tp tp3) ⟨t5, rfl, ?_⟩
          exact tp_lst (sw_new h5 ho2) _ _ upd_same
      · -- a return
        rw [hpl] at e
        cases e
        obtain ⟨u, ca, stk, hstk⟩ := stk_top W hpl (by omega)
        have hu := hst.2 _ (by rw [hstk]; exact List.mem_cons_self)
        have ev : (stA R row (i + 1)).1 = R.mul u (R.wrap ca lb (stA R row i).1) := by rw [stA_ret hpl, hstk]; rfl
        have evl : valAt R row i = R.mul u (R.wrap ca lb (stA R row i).1) := by rw [val_ret hpl, ev]
        have hr0 : isRet row i = true := isRet_iff.mpr ⟨_, hpl⟩
        have c1 := cK_ret hr0 hval hst.1
        rw [evl] at c1 hval
        have ops2 := I2.ops
        unfold OpsAt at ops2
        rw [hstk, List.reverse_cons] at ops2
        obtain ⟨os', y, rfl, hop, t6, rfl, h6⟩ := pair_last ops2
        have t6o : t6 ≠ lo := ne_of h6 I2.ho (by intro z; cases z)
        refine ⟨_, rfl, rfl, false, congrArg V.bl k_rc, iteF ⟨_, rfl, rfl, true, congrArg V.bl k_rr, iteT ?_⟩⟩
        refine ⟨_, rfl, .inl ⟨rfl, _, sql I2.ho⟩, lo, _, .ref t6, rfl, rfl, I2.ho, (by rw [List.length_append, List.length_singleton, Nat.add_sub_cancel, List.getElem?_append_right (Nat.le_refl _), Nat.sub_self]; rfl), t6, [.int (u : Int), .int (ca : Int)], rfl, sqt (by rw [upd_ne t6o]; exact h6), rfl, _, _, rfl, _, _, rfl, rfl, ?_⟩
        rw [List.dropLast_concat]
        dsimp only
        change tSeq _ _ _ [some (.ref a), some (.ref at_), some (.ref ac), some (.int 0), some (.ref le), some (.ref mu), some (.ref wr), some (.int (R.n : Int)), some (.ref ls), some (.int (((stA R row i).1 : Nat) : Int)), some (.ref lo), some (.int ((i : Nat) : Int)), some (.str (LK.str .ret)), some (.int (lb : Int)), some (.int (u : Int)), some (.int (ca : Int))] _
        have S3 : SetsAt H (upd H4 lo (.lst os')) ls ps (cK R row i) := I2.sets.mono fun b hb o h => by
          rw [upd_ne]
          · exact h
          · rintro rfl
            rcases hb with hb | ⟨j, hj⟩
            · exact I2.onl hb
            · exact I2.onp j hj
        refine q_put S3 (a := 8) (b := 11) rfl (evv_add (evv_var (i := 7) rfl) (evv_var (i := 9) rfl)) rfl (by omega) (hil _ (by omega)) fun p hp => ?_
        have S4 := S3.put (c' := cR R row i) hp cR_at.1 fun j hj ne => cR_at.2 j ne
        have tp0 : Tp H4 (upd H4 lo (.lst os')) := tp_lst I2.ho
        have tp2 := tup2 (xs := intsV (cK R row i (R.n + (stA R row i).1)) ++ [.int (i : Int)]) S3 hp
        have rd4 : ∀ R' : Unit, RdIn (upd (upd H4 lo (.lst os')) p (.lst (intsV (cK R row i (R.n + (stA R row i).1)) ++ [.int (i : Int)]))) R a la le mu wr ac ms ws := fun _ => by
          refine rd.same fun b o h => ?_
          rw [upd_ne (fun z => by rw [z, (S3.at_ _ p hp).1] at h; cases h), upd_ne (ne_of_none h I2.o0)]
          exact I2.same _ _ h
        have rd4 := rd4 ()
        refine q_setV (evv_mul rd4 (evv_var (i := 5) rfl) (evv_var (i := 14) rfl) (evv_wrap rd4 (evv_var (i := 6) rfl) (evv_var (i := 15) rfl) (evv_var (i := 13) rfl) (evv_var (i := 9) rfl) hu.2 hlb hst.1) hu.1 (O.wrap _ _ _ hu.2 hlb hst.1)) ?_
        have hcr : (cR R row i (R.mul u (R.wrap ca lb (stA R row i).1))).length ≤ 1000 := by
          rw [cR_at.2 _ (by omega)]
          exact hil _ (by omega)
        refine l_put (σ := [some (.ref a), some (.ref at_), some (.ref ac), some (.int 0), some (.ref le), some (.ref mu), some (.ref wr), some (.int (R.n : Int)), some (.ref ls), some (.int ((R.mul u (R.wrap ca lb (stA R row i).1) : Nat) : Int)), some (.ref lo), some (.int ((i : Nat) : Int)), some (.str (LK.str .ret)), some (.int (lb : Int)), some (.int (u : Int)), some (.int (ca : Int))]) (i := R.mul u (R.wrap ca lb (stA R row i).1)) (k := i) S4 (a := 8) (b := 11) rfl (evv_var (i := 9) rfl) rfl (by omega) hcr fun p2 hp2 => ?_
        have S5 := S4.put hp2 c1.1 fun j hj ne => c1.2 j (by omega) ne
        have tp3 := tup2 (xs := intsV (cR R row i (R.mul u (R.wrap ca lb (stA R row i).1))) ++ [.int (i : Int)]) S4 hp2
        refine ⟨hi, os', _, _, _, _, _, by rw [ev], I2.step (fun b o h1 h2 h3 => ?_) S5 ?_ ?_⟩
        · rw [upd_ne (fun z => h2 _ (z ▸ hp2)), upd_ne (fun z => h2 _ (z ▸ hp)), upd_ne h1]
          exact h3
        · rw [upd_ne (fun z => I2.onp _ (z ▸ hp2)), upd_ne (fun z => I2.onp _ (z ▸ hp)), upd_same]
        · rw [stA_ret hpl, hstk]
          exact OpsAt.tp tp3 (OpsAt.tp tp2 (OpsAt.tp tp0 (st := stk) hop))
    · rintro σ H2 ⟨_, os, y11, y12, y13, y14, y15, rfl, I⟩
      rw [← hrow.length] at I
      exact ⟨_, rfl, k ls ps H2 I.same I.sets I.len⟩
end
end Arc


namespace Arc
open PySem PySem.Spec PyProof.Rows L2
def kindsS : List Str := ["letter", "call", "return"]
/-- what the global KINDS is -/
structure Kd (K : PySem.W.Frag) (mg : Str → Option Value) (aK : Addr) : Prop where
  mg : mg "KINDS" = some (.ref aK)
  sq : ∀ H, SqT K H aK (kindsS.map V.str)
  cls : ∃ o, K.lookup aK = some o ∧ o.cls = .type "tuple" ∧ o.dict = none
def rTIx (K : PySem.W.Frag) : V → List V → Hp → VK → Prop := fun x xs H Q => ∃ p, ∃ ys : List Str, ∃ z j, x = .ref p ∧ xs = [.str z] ∧ SqT K H p (ys.map V.str) ∧ ys[j]? = some z ∧ (∀ m, m < j → ys[m]? ≠ some z) ∧ Q (.int (j : Nat)) H
theorem mt_tix {X : Cx} : MtR X "tuple.index" (rTIx X.K) := mt_tup_index
def LK.ix : LK → Nat
  | .set => 0
  | .letter => 0
  | .call => 1
  | .ret => 2
theorem kinds_ix : ∀ k : LK, k ≠ .set → kindsS[k.ix]? = some k.str ∧ ∀ m, m < k.ix → kindsS[m]? ≠ some k.str := by
  intro k h
  cases k with
  | set => exact absurd rfl h
  | letter => exact ⟨rfl, fun m hm => absurd hm (Nat.not_lt_zero m)⟩
  | call => exact ⟨rfl, fun m hm => by
      have e : m = 0 := Nat.lt_one_iff.mp hm
      subst e
      decide +kernel⟩
  | ret => exact ⟨rfl, fun m hm => by
      have e : m = 0 ∨ m = 1 := by
        have hm : m < 2 := hm
        omega
      rcases e with rfl | rfl <;> decide +kernel⟩
/-! ### check_labels -/
def spCheck : Sp := fun vs H Q _ => ∃ v R row a xs, vs = [v, .ref a] ∧ RdAt H R v ∧ H a = some (.lst xs) ∧ PlsAt H row xs ∧ RowOk R row ∧ ∀ H', Same H H' → Q .non H'
section
variable {P : Program} {w : World} {K : PySem.W.Frag} {mg : Str → Option Value} {base : Heap}
abbrev nCheck : List Str := ["reader", "text", "number", "place"]
theorem scCheck : FnScope nCheck ["reader", "text"] (defScope sCheck) := ⟨rfl, rfl, rfl, by decide +kernel, rfl, by decide +kernel, by decide +kernel⟩
theorem ok_check (F : DefAt K mg "check_labels" sCheck) (T : Tx mg) {aK : Addr} (KD : Kd K mg aK) : Dn P w K mg base "check_labels" 1 ["reader", "text"] spCheck := by
  refine dn_mk F scCheck (fun _ _ _ _ _ _ us hl => match us, hl with | [_, _], _ => rfl) (fun vs H Q E h => ?_) (fun f cdv A outer s H vs Q E hr h => ?_)
  · obtain ⟨v, R, row, a, xs, rfl, _⟩ := h
    rfl
  · obtain ⟨v, R, row, at_, xs, rfl, ⟨a, la, le, mu, wr, ac, ms, ws, rfl, rd⟩, hA, hrow, W, k⟩ := h
    refine ⟨_, (pss_one (ps_for PassesOwn.never rfl (pi_enum (by rfl) T.enumerate (pa_cons (pv 1) pa_nil)) (pg_tup rfl (pgs_cons (pg_name (i := 2) scCheck.nd rfl (.inl rfl)) (pgs_cons (pg_name (i := 3) scCheck.nd rfl (.inl rfl)) pgs_nil)))
        (pss_one (ps_if (pt_not (pt_chain op_le op_lt pe_int (pe_ix (r := rIxT K) ix_tup (pv 3) pe_int (fun _ _ => rfl)) (pe_ix (r := rIxT K) ix_tup (pe_ix (r := rIxT K) ix_tup (pv 0) pe_int (fun _ _ => rfl)) (pe_bm PySem.F.plainAttrs_tuple PySem.F.slot_tuple_index PySem.F.type_tuple_index (r := rTIx K) mt_tix (pe_glob (v := .ref aK) rfl KD.mg rfl) (pa_cons (pe_ix (r := rIxT K) ix_tup (pv 3) pe_int (fun _ _ => rfl)) pa_nil)) (fun _ _ => rfl))))
          (pss_one ps_never)
          pss_nil)))), ?_⟩
    refine ⟨_, rfl, at_, xs, rfl, sql hA, for_it walk_enum (fun i σ H' => ∃ y2 y3, σ = [some (.ref a), some (.ref at_), y2, y3] ∧ Same H H') ⟨none, none, rfl, Same.refl _⟩ (fun i σ H' _ ⟨_, _, _, e⟩ => sql (e _ _ hA)) ?_ ?_⟩
    · rintro i v σ H2 H3 hi ⟨y2, y3, rfl, s2⟩ ⟨t, n, x, rfl, ht, rfl, en, ex⟩
      have en : V.int ((i : Nat) : Int) = n := Option.some.inj en
      subst en
      rw [← hrow.length] at hi
      obtain ⟨pl, hpl, t2, rfl, h2⟩ := pair_get hrow ex
      have st := same_new (o := .tup [.int ((i : Nat) : Int), .ref t2]) ht
      have h2' := st _ _ (s2 _ _ h2)
      refine ⟨t, _, rfl, sqt upd_same, rfl, _, _, rfl, _, _, rfl, rfl, ?_⟩
      dsimp only
      change tIfS _ _ _ _ [some (.ref a), some (.ref at_), some (.int ((i : Nat) : Int)), some (.ref t2)] _
      have rd2 := rd.same (s2.trans st)
      have s3 := s2.trans st
      generalize upd H2 t (.tup [.int ((i : Nat) : Int), .ref t2]) = H4 at h2' rd2 s3 ⊢
      have hk : pl.1 ≠ .set := fun z => W.noset i pl.2 (by rw [hpl]; obtain ⟨p1, p2⟩ := pl; have z : p1 = .set := z; rw [z])
      have hix := kinds_ix pl.1 hk
      refine evv_ix h2' (evv_var (i := 3) rfl) (evv_c (v := .int ((1 : Nat) : Int))) rfl H4 (Same.refl _) _ ⟨_, _, rfl, rfl, true, congrArg V.bl (decide_eq_true (by omega)), iteT ?_⟩
      refine evv_ix rd2.top (evv_var (i := 0) rfl) (evv_c (v := .int ((0 : Nat) : Int))) rfl H4 (Same.refl _) _ ?_
      refine ⟨.inr (.inl ⟨rfl, KD.cls⟩), evv_ix h2' (evv_var (i := 3) rfl) (evv_c (v := .int ((0 : Nat) : Int))) rfl H4 (Same.refl _) _ ⟨aK, kindsS, pl.1.str, pl.1.ix, rfl, rfl, KD.sq _, hix.1, hix.2, ?_⟩⟩
      have hb : ∃ m : Nat, [V.int (R.l : Int), V.int (R.c : Int), V.int (R.r : Int)][pl.1.ix]? = some (.int (m : Int)) ∧ pl.2 < m := by
        obtain ⟨p1, p2⟩ := pl
        cases p1 with
        | set => exact absurd rfl hk
        | letter => exact ⟨R.l, rfl, W.lett i p2 hpl⟩
        | call => exact ⟨R.c, rfl, W.call i p2 hpl⟩
        | ret => exact ⟨R.r, rfl, W.ret i p2 hpl⟩
      obtain ⟨m, hm1, hm2⟩ := hb
      refine ⟨la, _, _, _, rfl, rfl, sqt rd2.lab, atI_nat hm1, _, _, rfl, rfl, true, congrArg V.bl (decide_eq_true (by omega)), ?_⟩
      refine iteF ⟨_, _, rfl, s3⟩
    · rintro σ H2 ⟨y2, y3, rfl, s2⟩
      exact k H2 s2
end
/-! ### value_behind, value, accepts -/
def spBehV : Sp := fun vs H Q _ => ∃ v R row a xs, vs = [v, .int 0, .ref a] ∧ RdAt H R v ∧ Rdr.Ok R ∧ H a = some (.lst xs) ∧ PlsAt H row xs ∧ RowOk R row ∧ row.length ≤ 100 ∧ ∀ H', Same H H' → Q (.int (((stA R row row.length).1 : Nat) : Int)) H'
structure ValInv (R : Rdr) (row : List Place) (H0 H : Hp) (lo : Addr) (os : List V) (k : Nat) : Prop where
  same : Same H0 H
  o0 : H0 lo = none
  ho : H lo = some (.lst os)
  ops : OpsAt H (stA R row k).2 os
section
variable {P : Program} {w : World} {K : PySem.W.Frag} {mg : Str → Option Value} {base : Heap}
abbrev nBehV : List Str := ["reader", "start", "text", "_", "empty", "letters", "mul", "wrap", "value_now", "opened", "kind", "label", "ahead", "call"]
theorem scBehV : FnScope nBehV ["reader", "start", "text"] (defScope sBehV) := ⟨rfl, rfl, rfl, by decide +kernel, rfl, by decide +kernel, by decide +kernel⟩
theorem ok_behV (F : DefAt K mg "value_behind" sBehV) (GC : Dn P w K mg base "check_labels" 1 ["reader", "text"] spCheck) : Dn P w K mg base "value_behind" 2 ["reader", "start", "text"] spBehV := by
  refine dn_mk F scBehV (fun _ _ _ _ _ _ us hl => match us, hl with | [_, _, _], _ => rfl) (fun vs H Q E h => ?_) (fun f cdv A outer s H vs Q E hr h => ?_)
  · obtain ⟨v, R, row, a, xs, rfl, _⟩ := h
    rfl
  · obtain ⟨v, R, row, at_, xs, rfl, ⟨a, la, le, mu, wr, ac, ms, ws, rfl, rd⟩, O, hA, hrow, W, hlen, k⟩ := h
    refine ⟨_, (pss_cons (ps_expr (pe_dn GC hr rfl (pa_cons (pv 0) (pa_cons (pv 2) pa_nil))))
      (pss_cons (ps_asg (pv 0) (pg_tup rfl (pgs_cons (pg_name (i := 3) scBehV.nd rfl (.inl rfl)) (pgs_cons (pg_name (i := 4) scBehV.nd rfl (.inl rfl)) (pgs_cons (pg_name (i := 5) scBehV.nd rfl (.inl rfl)) (pgs_cons (pg_name (i := 6) scBehV.nd rfl (.inl rfl)) (pgs_cons (pg_name (i := 7) scBehV.nd rfl (.inl rfl)) (pgs_cons (pg_name (i := 3) scBehV.nd rfl (.inl rfl)) pgs_nil))))))))
      (pss_cons (ps_set (i := 8) scBehV.nd rfl (.inl rfl) (pv 1))
      (pss_cons (ps_set (i := 9) scBehV.nd rfl (.inl rfl) (pe_lst pa_nil))
      (pss_cons (ps_for PassesOwn.never rfl (pi_list (pv 2)) (pg_tup rfl (pgs_cons (pg_name (i := 10) scBehV.nd rfl (.inl rfl)) (pgs_cons (pg_name (i := 11) scBehV.nd rfl (.inl rfl)) pgs_nil)))
        (pss_one (ps_if (pt_cmpR op_eq (pv 10) pe_str (nomark _))
          (pss_one (ps_set (i := 8) scBehV.nd rfl (.inl rfl) (pe_ix (r := rIxT K) ix_tup (pe_ix (r := rIxT K) ix_tup (pv 6) (pv 8) (fun _ _ => rfl)) (pe_ix (r := rIxT K) ix_tup (pv 5) (pv 11) (fun _ _ => rfl)) (fun _ _ => rfl))))
          (pss_one (ps_if (pt_cmpR op_eq (pv 10) pe_str (nomark _))
            (pss_cons (ps_expr (pe_bm PySem.F.plainAttrs_list PySem.F.slot_list_append PySem.F.type_list_append mt_append (pv 9) (pa_cons (pe_tup (pa_cons (pv 8) (pa_cons (pv 11) pa_nil))) pa_nil)))
            (pss_one (ps_set (i := 8) scBehV.nd rfl (.inl rfl) (pv 4))))
            (pss_cons (ps_asg (pe_bm0 PySem.F.plainAttrs_list PySem.F.slot_list_pop PySem.F.type_list_pop mt_pop (pv 9)) (pg_tup rfl (pgs_cons (pg_name (i := 12) scBehV.nd rfl (.inl rfl)) (pgs_cons (pg_name (i := 13) scBehV.nd rfl (.inl rfl)) pgs_nil))))
            (pss_one (ps_set (i := 8) scBehV.nd rfl (.inl rfl) (pe_ix (r := rIxT K) ix_tup (pe_ix (r := rIxT K) ix_tup (pv 6) (pv 12) (fun _ _ => rfl)) (pe_ix (r := rIxT K) ix_tup (pe_ix (r := rIxT K) ix_tup (pe_ix (r := rIxT K) ix_tup (pv 7) (pv 13) (fun _ _ => rfl)) (pv 11) (fun _ _ => rfl)) (pv 8) (fun _ _ => rfl)) (fun _ _ => rfl))))))))))
      (pss_one (ps_ret (pv 8)))))))), ?_⟩
    refine ⟨_, rfl, _, rfl, .ref a, R, row, at_, xs, rfl, ⟨a, la, le, mu, wr, ac, ms, ws, rfl, rd⟩, hA, hrow, W, fun H1 s1 => ?_⟩
    have rd1 := rd.same s1
    dsimp only
    refine ⟨_, rfl, a, _, rfl, sqt rd1.top, rfl, _, _, rfl, _, _, rfl, _, _, rfl, _, _, rfl, _, _, rfl, _, _, rfl, rfl, ?_⟩
    change tSeq _ _ _ [some (.ref a), some (.int 0), some (.ref at_), some (.ref ac), some (.int 0), some (.ref le), some (.ref mu), some (.ref wr), none, none, none, none, none, none] H1
    refine ⟨_, rfl, Nat.zero_le _, fun lo hlo => ?_⟩
    change tSeq _ _ _ [some (.ref a), some (.int 0), some (.ref at_), some (.ref ac), some (.int 0), some (.ref le), some (.ref mu), some (.ref wr), some (.int ((0 : Nat) : Int)), some (.ref lo), none, none, none, none] _
    refine ⟨_, rfl, at_, rfl, ⟨xs, sql (same_new hlo _ _ (s1 _ _ hA))⟩, for_it (walk_list (xs := xs)) (fun i σ H' => i ≤ row.length ∧ ∃ os y10 y11 y12 y13, σ = [some (.ref a), some (.int 0), some (.ref at_), some (.ref ac), some (.int 0), some (.ref le), some (.ref mu), some (.ref wr), some (.int (((stA R row i).1 : Nat) : Int)), some (.ref lo), y10, y11, y12, y13] ∧ ValInv R row H H' lo os i)
      ⟨Nat.zero_le _, [], none, none, none, none, rfl, s1.trans (same_new hlo), s1.free hlo, upd_same, .nil⟩ (fun i σ H' _ ⟨_, _, _, _, _, _, _, I⟩ => sql (I.same _ _ hA)) ?_ ?_⟩
    · rintro i v σ H2 H3 hi ⟨_, os, y10, y11, y12, y13, rfl, I⟩ ⟨rfl, ex⟩
      rw [← hrow.length] at hi
      obtain ⟨pl, hpl, t2, rfl, h2⟩ := pair_get hrow ex
      refine ⟨t2, _, rfl, sqt (I.same _ _ h2), rfl, _, _, rfl, _, _, rfl, rfl, ?_⟩
      dsimp only
      change tIfS _ _ _ _ [some (.ref a), some (.int 0), some (.ref at_), some (.ref ac), some (.int 0), some (.ref le), some (.ref mu), some (.ref wr), some (.int (((stA R row i).1 : Nat) : Int)), some (.ref lo), some (.str pl.1.str), some (.int (pl.2 : Int)), y12, y13] H3
      have rd2 := rd.same I.same
      have hst := stA_lt O W i (by omega)
      have hol := ops_len I.ops
      have hsl := stk_len W (k := i) (by omega)
      rcases kinds W hi with ⟨lb, e, hlb⟩ | ⟨lb, e, hlb⟩ | ⟨lb, e, hlb, ne⟩
      · rw [hpl] at e
        cases e
        have ev : (stA R row (i + 1)).1 = R.mul (stA R row i).1 (R.letters lb) := by rw [stA_letter hpl]
        refine ⟨_, rfl, rfl, true, congrArg V.bl k_ll, iteT ?_⟩
        refine l_raw (evv_mul rd2 (evv_var (i := 6) rfl) (evv_var (i := 8) rfl) (evv_let rd2 (evv_var (i := 5) rfl) (evv_var (i := 11) rfl) hlb) hst.1 (O.letters _ hlb) H3 (Same.refl _) _ ?_)
        refine ⟨hi, os, _, _, _, _, by rw [ev]; rfl, I.same, I.o0, I.ho, ?_⟩
        rw [stA_letter hpl]
        exact I.ops
      · rw [hpl] at e
        cases e
        have ev : (stA R row (i + 1)).1 = 0 := by rw [stA_call hpl]
        refine ⟨_, rfl, rfl, false, congrArg V.bl k_cl, iteF ⟨_, rfl, rfl, true, congrArg V.bl k_cc, iteT ?_⟩⟩
        refine ⟨_, rfl, .inl ⟨rfl, _, sql I.ho⟩, _, rfl, _, rfl, le2, fun t5 h5 => ⟨lo, os, .ref t5, rfl, rfl, sw_new h5 I.ho, szlt (by omega), ?_⟩⟩
        refine ⟨_, rfl, ?_⟩
        have tp3 := (tp_new (o := .tup [.int (((stA R row i).1 : Nat) : Int), .int (lb : Int)]) h5).trans (tp_lst (ys := os ++ [.ref t5]) (sw_new h5 I.ho))
        refine ⟨hi, os ++ [.ref t5], _, _, _, _, by rw [ev]; rfl, same_mut (I.same.trans (same_new h5)) I.o0, I.o0, upd_same, ?_⟩
        rw [stA_call hpl]
        show Paired _ (((stA R row i).1, lb) :: (stA R row i).2).reverse _
        rw [List.reverse_cons]
        refine Paired.snoc (OpsAt.tp tp3 I.ops) ⟨t5, rfl, ?_⟩
        exact tp_lst (sw_new h5 I.ho) _ _ upd_same
      · rw [hpl] at e
        cases e
        obtain ⟨u, ca, stk, hstk⟩ := stk_top W hpl (by omega)
        have hu := hst.2 _ (by rw [hstk]; exact List.mem_cons_self)
        have ev : (stA R row (i + 1)).1 = R.mul u (R.wrap ca lb (stA R row i).1) := by rw [stA_ret hpl, hstk]; rfl
        have ops2 := I.ops
        unfold OpsAt at ops2
        rw [hstk, List.reverse_cons] at ops2
        obtain ⟨os', y, rfl, hop, t6, rfl, h6⟩ := pair_last ops2
        have t6o : t6 ≠ lo := ne_of h6 I.ho (by intro z; cases z)
        refine ⟨_, rfl, rfl, false, congrArg V.bl k_rl, iteF ⟨_, rfl, rfl, false, congrArg V.bl k_rc, iteF ?_⟩⟩
        refine ⟨_, rfl, .inl ⟨rfl, _, sql I.ho⟩, lo, _, .ref t6, rfl, rfl, I.ho, (by rw [List.length_append, List.length_singleton, Nat.add_sub_cancel, List.getElem?_append_right (Nat.le_refl _), Nat.sub_self]; rfl), t6, [.int (u : Int), .int (ca : Int)], rfl, sqt (by rw [upd_ne t6o]; exact h6), rfl, _, _, rfl, _, _, rfl, rfl, ?_⟩
        rw [List.dropLast_concat]
        dsimp only
        change tAsg _ _ _ [some (.ref a), some (.int 0), some (.ref at_), some (.ref ac), some (.int 0), some (.ref le), some (.ref mu), some (.ref wr), some (.int (((stA R row i).1 : Nat) : Int)), some (.ref lo), some (.str (LK.str .ret)), some (.int (lb : Int)), some (.int (u : Int)), some (.int (ca : Int))] _
        have rd4 := rd.same (same_mut (p := lo) (o := .lst os') I.same I.o0)
        refine l_raw (evv_mul rd4 (evv_var (i := 6) rfl) (evv_var (i := 12) rfl) (evv_wrap rd4 (evv_var (i := 7) rfl) (evv_var (i := 13) rfl) (evv_var (i := 11) rfl) (evv_var (i := 8) rfl) hu.2 hlb hst.1) hu.1 (O.wrap _ _ _ hu.2 hlb hst.1) _ (Same.refl _) _ ?_)
        refine ⟨hi, os', _, _, _, _, by rw [ev]; rfl, same_mut I.same I.o0, I.o0, upd_same, ?_⟩
        rw [stA_ret hpl, hstk]
        exact OpsAt.tp (tp_lst I.ho) (st := stk) hop
    · rintro σ H2 ⟨_, os, y10, y11, y12, y13, rfl, I⟩
      rw [← hrow.length]
      exact ⟨_, rfl, k H2 I.same⟩
def spValue : Sp := fun vs H Q _ => ∃ v R row a xs, vs = [v, .ref a] ∧ RdAt H R v ∧ Rdr.Ok R ∧ H a = some (.lst xs) ∧ PlsAt H row xs ∧ RowOk R row ∧ row.length ≤ 100 ∧ ∀ H', Same H H' → Q (.int (((stA R row row.length).1 : Nat) : Int)) H'
theorem scValue : FnScope ["reader", "text"] ["reader", "text"] (defScope sValue) := ⟨rfl, rfl, rfl, by decide +kernel, rfl, by decide +kernel, by decide +kernel⟩
theorem ok_value (F : DefAt K mg "value" sValue) (GB : Dn P w K mg base "value_behind" 2 ["reader", "start", "text"] spBehV) : Dn P w K mg base "value" 3 ["reader", "text"] spValue := by
  refine dn_mk F scValue (fun _ _ _ _ _ _ us hl => match us, hl with | [_, _], _ => rfl) (fun vs H Q E h => ?_) (fun f cdv A outer s H vs Q E hr h => ?_)
  · obtain ⟨v, R, row, a, xs, rfl, _⟩ := h
    rfl
  · obtain ⟨v, R, row, at_, xs, rfl, ⟨a, la, le, mu, wr, ac, ms, ws, rfl, rd⟩, O, hA, hrow, W, hlen, k⟩ := h
    refine ⟨_, (pss_one (ps_ret (pe_dn GB hr rfl (pa_cons (pv 0) (pa_cons (pe_ix (r := rIxT K) ix_tup (pv 0) pe_int (fun _ _ => rfl)) (pa_cons (pv 1) pa_nil)))))), ?_⟩
    refine ⟨_, rfl, evv_ix rd.top (evv_var (i := 0) rfl) (evv_c (v := .int ((1 : Nat) : Int))) rfl H (Same.refl _) _ ⟨_, rfl, .ref a, R, row, at_, xs, rfl, ⟨a, la, le, mu, wr, ac, ms, ws, rfl, rd⟩, O, hA, hrow, W, hlen, k⟩⟩
def spAccepts : Sp := fun vs H Q _ => ∃ v R row a xs, vs = [v, .ref a] ∧ RdAt H R v ∧ Rdr.Ok R ∧ H a = some (.lst xs) ∧ PlsAt H row xs ∧ RowOk R row ∧ row.length ≤ 100 ∧ ∀ H', Same H H' → Q (.bl (decide ((stA R row row.length).1 ∈ R.acc))) H'
theorem inV_ints (x : Nat) : ∀ ns : List Nat, inV (.int (x : Int)) (intsV ns) = decide (x ∈ ns)
  | [] => rfl
  | n :: ns => by
    show (((n : Int) == (x : Int)) || inV (.int (x : Int)) (intsV ns)) = _
    rw [inV_ints x ns]
    by_cases e : n = x
    · subst e
      simp
    · have e1 : ((n : Int) == (x : Int)) = false := beq_eq_false_iff_ne.mpr (by omega)
      rw [e1, Bool.false_or]
      have e2 : x ≠ n := fun z => e z.symm
      simp [e2]
theorem flat_ints (ns : List Nat) : (intsV ns).all flatV = true := by
  unfold intsV
  rw [List.all_map]
  exact List.all_eq_true.mpr fun _ _ => rfl
theorem scAcc : FnScope ["reader", "text"] ["reader", "text"] (defScope sAcc) := ⟨rfl, rfl, rfl, by decide +kernel, rfl, by decide +kernel, by decide +kernel⟩
theorem ok_accepts (F : DefAt K mg "accepts" sAcc) (GV : Dn P w K mg base "value" 3 ["reader", "text"] spValue) : Dn P w K mg base "accepts" 4 ["reader", "text"] spAccepts := by
  refine dn_mk F scAcc (fun _ _ _ _ _ _ us hl => match us, hl with | [_, _], _ => rfl) (fun vs H Q E h => ?_) (fun f cdv A outer s H vs Q E hr h => ?_)
  · obtain ⟨v, R, row, a, xs, rfl, _⟩ := h
    rfl
  · obtain ⟨v, R, row, at_, xs, rfl, ⟨a, la, le, mu, wr, ac, ms, ws, rfl, rd⟩, O, hA, hrow, W, hlen, k⟩ := h
    refine ⟨_, (pss_one (ps_ret (pe_cmpR (r := rIn K false) op_in_seq (pe_dn GV hr rfl (pa_cons (pv 0) (pa_cons (pv 1) pa_nil))) (pe_ix (r := rIxT K) ix_tup (pv 0) pe_int (fun _ _ => rfl)) (by rfl)))), ?_⟩
    refine ⟨_, rfl, _, rfl, .ref a, R, row, at_, xs, rfl, ⟨a, la, le, mu, wr, ac, ms, ws, rfl, rd⟩, O, hA, hrow, W, hlen, fun H1 s1 => ?_⟩
    have rd1 := rd.same s1
    refine evv_ix rd1.top (evv_var (i := 0) rfl) (evv_c (v := .int ((5 : Nat) : Int))) rfl H1 (Same.refl _) _ ⟨ac, intsV R.acc, rfl, .inr (sqt rd1.acc), rfl, flat_ints _, ?_⟩
    rw [if_neg Bool.false_ne_true, inV_ints]
    exact k H1 s1
end
end Arc


namespace Arc
open PySem PySem.Spec PyProof.Rows L2
def rInt : List V → Hp → VK → Prop := fun xs H Q => (∃ i, xs = [.int i] ∧ Q (.int i) H) ∨ ∃ k, xs = [.bl k] ∧ Q (.int (if k then 1 else 0)) H
theorem call_intO {X : Cx} : CallR X (.type "int") rInt := call_int1
def rMx : List V → Hp → VK → Prop := fun xs H Q => ∃ i j, xs = [.int i, .int j] ∧ Q (.int (if j > i then j else i)) H
theorem call_mx {X : Cx} (hc : X.calm = true) : CallR X (.builtin "max") rMx := call_max2 hc
/-! ### the law's state: all else stays -/
def Sb (st : Addr) (H H' : Hp) : Prop := ∀ b o, b ≠ st → H b = some o → H' b = some o
theorem Sb.refl (st : Addr) (H : Hp) : Sb st H H := fun _ _ _ h => h
theorem Sb.trans {st : Addr} {H H1 H2 : Hp} (a : Sb st H H1) (b : Sb st H1 H2) : Sb st H H2 := fun c o n h => b c o n (a c o n h)
theorem Sb.of {st : Addr} {H H' : Hp} (e : Same H H') : Sb st H H' := fun b o _ h => e b o h
theorem Sb.upd {st : Addr} {H : Hp} {o : HO} : Sb st H (upd H st o) := fun b u n h => by rw [upd_ne n]; exact h
structure DS (st sc : Addr) (ns : List Int) (H : Hp) : Prop where
  hs : ∃ a b d : Int, H st = some (.lst [.int a, .int b, .ref sc, .int d]) ∧ 0 ≤ b
  hc : H sc = some (.lst (ns.map V.int))
  ne : sc ≠ st
theorem DS.st_some {st sc : Addr} {ns : List Int} {H : Hp} (h : DS st sc ns H) : ∃ o, H st = some o := by
  obtain ⟨a, b, d, h1, _⟩ := h.hs
  exact ⟨_, h1⟩
/-- only the state may have changed, and it is a state -/
structure Wk (st sc : Addr) (ns : List Int) (H H' : Hp) : Prop where
  sb : Sb st H H'
  ds : DS st sc ns H'
section
variable {st sc : Addr} {ns : List Int} {H H1 H2 : Hp}
theorem Wk.refl (D : DS st sc ns H) : Wk st sc ns H H := ⟨Sb.refl _ _, D⟩
theorem Wk.trans (a : Wk st sc ns H H1) (b : Wk st sc ns H1 H2) : Wk st sc ns H H2 := ⟨a.sb.trans b.sb, b.ds⟩
theorem DS.same (D : DS st sc ns H) (e : Same H H1) : DS st sc ns H1 := by
  obtain ⟨⟨a, b, d, h1, h2⟩, h3, h4⟩ := D
  exact ⟨⟨a, b, d, e _ _ h1, h2⟩, e _ _ h3, h4⟩
theorem Wk.same (a : Wk st sc ns H H1) (e : Same H1 H2) : Wk st sc ns H H2 := ⟨a.sb.trans (Sb.of e), a.ds.same e⟩
theorem Wk.of (D : DS st sc ns H) (e : Same H H1) : Wk st sc ns H H1 := (Wk.refl D).same e
theorem Wk.free (D : DS st sc ns H) (a : Wk st sc ns H H1) {l : Addr} (h : H1 l = none) : H l = none := by
  cases q : H l with
  | none => rfl
  | some o =>
    by_cases e : l = st
    · obtain ⟨o', h'⟩ := a.ds.st_some
      rw [e, h'] at h
      cases h
    · rw [a.sb l o e q] at h
      cases h
/-- an object that H does not know may change -/
theorem Wk.mut (D : DS st sc ns H) (a : Wk st sc ns H H1) {p : Addr} {o : HO} (h : H p = none) : Wk st sc ns H (upd H1 p o) := by
  have n1 : st ≠ p := by
    obtain ⟨o', h'⟩ := D.st_some
    exact ne_of_none h' h
  have n2 : sc ≠ p := ne_of_none D.hc h
  obtain ⟨⟨x, b, d, h1, h2⟩, h3, h4⟩ := a.ds
  refine ⟨fun c u n e => ?_, ⟨x, b, d, by rw [upd_ne n1]; exact h1, h2⟩, by rw [upd_ne n2]; exact h3, h4⟩
  rw [upd_ne (ne_of_none e h)]
  exact a.sb c u n e
theorem Wk.tp (D : DS st sc ns H) (a : Wk st sc ns H H1) : Tp H H1 := fun b xs h => by
  refine a.sb b _ ?_ h
  obtain ⟨x, y, d, h1, _⟩ := D.hs
  exact ne_of h h1 (by intro z; cases z)
/-- a list that is not the state stays -/
theorem Wk.at_ (a : Wk st sc ns H H1) {b : Addr} {o : HO} (n : b ≠ st) (h : H b = some o) : H1 b = some o := a.sb b o n h
theorem DS.ne_new (D : DS st sc ns H) {l : Addr} (h : H l = none) : l ≠ st := by
  obtain ⟨o, e⟩ := D.st_some
  exact (ne_of_none e h).symm
end
section
variable {K : PySem.W.Frag} {σ : St} {H : Hp} {ta tb te : TE} {u : TS} {D : Ends} {i j : Int} {v : V}
theorem evv_ixL {p : Addr} {xs : List V} {k : Nat} (h : H p = some (.lst xs)) (ha : EvV ta σ H (.ref p)) (hb : EvV tb σ H (.int (k : Int))) (e : xs[k]? = some v) : EvV (tOp (rIxL K) ta tb) σ H v := fun H1 e1 Q q =>
  ha H1 e1 _ (hb H1 e1 _ ⟨p, xs, k, v, rfl, rfl, sql (e1 _ _ h), atI_nat e, q⟩)
theorem evv_i0 {g : Int → Int → V} (ha : EvV ta σ H (.int i)) (hb : EvV tb σ H (.int j)) : EvV (tOp (rI0 g) ta tb) σ H (g i j) := fun H1 e1 Q q => ha H1 e1 _ (hb H1 e1 _ ⟨i, j, rfl, rfl, q⟩)
theorem evv_iC {C : Int → Int → Prop} {g : Int → Int → V} (hc : C i j) (ha : EvV ta σ H (.int i)) (hb : EvV tb σ H (.int j)) : EvV (tOp (rI C g) ta tb) σ H (g i j) := fun H1 e1 Q q => ha H1 e1 _ (hb H1 e1 _ ⟨i, j, rfl, rfl, hc, q⟩)
theorem evv_int (ha : EvV ta σ H (.int i)) : EvV (tCB rInt (tCons ta tNil)) σ H (.int i) := fun H1 e1 Q q => ha H1 e1 _ (.inl ⟨i, rfl, q⟩)
/-- x[k] = e -/
theorem q_setI {a k : Nat} {st : Addr} {xs : List V} (h : EvV te σ H v) (ha : σ[a]? = some (some (.ref st))) (hs : H st = some (.lst xs)) (hk : k < xs.length) (kont : u D σ (upd H st (.lst (xs.set k v)))) :
    tSeq (tAsg te (gSub (tVar a) (tC (.int (k : Int))) rSetL)) u D σ H :=
  h H (Same.refl _) _ ⟨_, ha, st, xs, k, k, rfl, rfl, hs, by unfold ixN; rw [if_pos (by omega), if_pos (by omega), Int.toNat_natCast], kont⟩
theorem l_setI {a k : Nat} {st : Addr} {xs : List V} (h : EvV te σ H v) (ha : σ[a]? = some (some (.ref st))) (hs : H st = some (.lst xs)) (hk : k < xs.length) (kont : D.nx σ (upd H st (.lst (xs.set k v)))) :
    tAsg te (gSub (tVar a) (tC (.int (k : Int))) rSetL) D σ H := q_setI (u := tNext) h ha hs hk kont
end
/-! ### _law_draw -/
def spDraw : Sp := fun vs H Q _ => ∃ st sc ns L, vs = [.ref st, .int ((L : Nat) : Int)] ∧ DS st sc ns H ∧ 1 ≤ L ∧ L ≤ 1000 ∧ ∀ (z : Nat) H', z < L → Wk st sc ns H H' → Q (.int (z : Int)) H'
section
variable {P : Program} {w : World} {K : PySem.W.Frag} {mg : Str → Option Value} {base : Heap}
abbrev nDraw : List Str := ["_law_state", "_law_limit", "_law_position", "_law_cell", "_law_mixed", "_law_digit"]
theorem scDraw : FnScope nDraw ["_law_state", "_law_limit"] (defScope sDraw) := ⟨rfl, rfl, rfl, by decide +kernel, rfl, by decide +kernel, by decide +kernel⟩
theorem ok_draw (F : DefAt K mg "_law_draw" sDraw) (T : Tx mg) : Dn P w K mg base "_law_draw" 1 ["_law_state", "_law_limit"] spDraw := by
  refine dn_mk F scDraw (fun _ _ _ _ _ _ us hl => match us, hl with | [_, _], _ => rfl) (fun vs H Q E h => ?_) (fun f cdv A outer s H vs Q E hr h => ?_)
  · obtain ⟨st, sc, ns, L, rfl, _⟩ := h
    rfl
  · obtain ⟨st, sc, ns, L, rfl, D0, hL1, hL2, k⟩ := h
    refine ⟨_, (Evl.pss_cut (ps_if (pt_cmpR op_lt (pe_ix (r := rIxL K) ix_list (pv 0) pe_int (fun _ _ => rfl)) (pv 1) (nomark _))
        (pss_cons (ps_set (i := 2) scDraw.nd rfl (.inl rfl) (pe_ix (r := rIxL K) ix_list (pv 0) pe_int (fun _ _ => rfl)))
        (pss_cons (ps_asg (pe_op op_add (pv 2) pe_int) (pg_sub (pv 0) pe_int set_list))
        (pss_cons (ps_set (i := 3) scDraw.nd rfl (.inl rfl) pe_int)
        (Evl.pss_cut (ps_if (pt_cmpR op_lt (pv 2) (pe_callB (r := tLenS K) call_lenS (by rfl) T.len PySem.boot_len (pa_cons (pe_ix (r := rIxL K) ix_list (pv 0) pe_int (fun _ _ => rfl)) pa_nil)) (nomark _))
          (pss_one (ps_set (i := 3) scDraw.nd rfl (.inl rfl) (pe_ix (r := rIxL K) ix_list (pe_ix (r := rIxL K) ix_list (pv 0) pe_int (fun _ _ => rfl)) (pv 2) (fun _ _ => rfl))))
          pss_nil)
        (pss_one (ps_if (pt_cmpR op_ge (pv 3) (pe_op op_pow pe_int pe_int) (nomark _))
          (pss_one (ps_asg (pv 3) (pg_sub (pv 0) pe_int set_list)))
          (pss_cons (ps_asg (pe_op op_modN (pe_callTy (r := rInt) call_intO (by rfl) T.int (by decide +kernel) (pa_cons (pe_op op_mul (pe_op op_add (pe_op op_add (pe_op op_add (pe_ix (r := rIxL K) ix_list (pv 0) pe_int (fun _ _ => rfl)) (pe_op op_modN (pe_callTy (r := rInt) call_intO (by rfl) T.int (by decide +kernel) (pa_cons (pv 3) pa_nil)) pe_int)) (pv 2)) pe_int) pe_int) pa_nil)) pe_int) (pg_sub (pv 0) pe_int set_list))
          (pss_cons (ps_set (i := 4) scDraw.nd rfl (.inl rfl) (pe_op op_modN (pe_callTy (r := rInt) call_intO (by rfl) T.int (by decide +kernel) (pa_cons (pe_op op_add (pe_op op_mul (pe_ix (r := rIxL K) ix_list (pv 0) pe_int (fun _ _ => rfl)) pe_int) pe_int) pa_nil)) pe_int))
          (pss_one (ps_asg (pe_op op_add (pe_op op_mul (pv 4) pe_int) (pe_op op_modN (pe_callTy (r := rInt) call_intO (by rfl) T.int (by decide +kernel) (pa_cons (pe_op op_add (pe_op op_mul (pv 4) pe_int) (pe_ix (r := rIxL K) ix_list (pv 0) pe_int (fun _ _ => rfl))) pa_nil)) pe_int)) (pg_sub (pv 0) pe_int set_list)))))))))))
        pss_nil)
      (pss_cons (ps_set (i := 5) scDraw.nd rfl (.inl rfl) (pe_op op_modN (pe_callTy (r := rInt) call_intO (by rfl) T.int (by decide +kernel) (pa_cons (pe_ix (r := rIxL K) ix_list (pv 0) pe_int (fun _ _ => rfl)) pa_nil)) (pv 1)))
      (pss_cons (ps_asg (pe_op op_fdivN (pe_ix (r := rIxL K) ix_list (pv 0) pe_int (fun _ _ => rfl)) (pv 1)) (pg_sub (pv 0) pe_int set_list))
      (pss_one (ps_ret (pv 5)))))), ?_⟩
    obtain ⟨⟨a, b, d, hst, hb⟩, hsc, ne⟩ := D0
    have D0 : DS st sc ns H := ⟨⟨a, b, d, hst, hb⟩, hsc, ne⟩
    change Evl.tCut _ _ _ [some (.ref st), some (.int (L : Int)), none, none, none, none] H
    refine ⟨fun σ' H' => ∃ y2 y3 y4, σ' = [some (.ref st), some (.int (L : Int)), y2, y3, y4, none] ∧ Wk st sc ns H H', ?_, ?_⟩
    · refine evv_ixL hst (evv_var (i := 0) rfl) (evv_c (v := .int ((0 : Nat) : Int))) rfl H (Same.refl _) _ ⟨_, rfl, _, _, rfl, rfl, _, rfl, ite2 (fun c => ?_) (fun c => ⟨_, _, _, rfl, Wk.refl D0⟩)⟩
      obtain ⟨bn, rfl⟩ : ∃ bn : Nat, b = (bn : Int) := ⟨b.toNat, by omega⟩
      refine q_setV (evv_ixL hst (evv_var (i := 0) rfl) (evv_c (v := .int ((1 : Nat) : Int))) rfl) ?_
      change tSeq _ _ _ [some (.ref st), some (.int (L : Int)), some (.int (bn : Int)), none, none, none] H
      refine q_setI (k := 1) (evv_i0 (evv_var (i := 2) rfl) (evv_c (v := .int 1))) rfl hst (by show 1 < 4; decide) ?_
      have h1 : upd H st (.lst ([V.int a, V.int (bn : Int), V.ref sc, V.int d].set 1 (V.int ((bn : Int) + 1)))) st = some (.lst [.int a, .int ((bn : Int) + 1), .ref sc, .int d]) := upd_same
      have w1 : Wk st sc ns H (upd H st (.lst ([V.int a, V.int (bn : Int), V.ref sc, V.int d].set 1 (V.int ((bn : Int) + 1))))) := ⟨Sb.upd, ⟨a, _, d, h1, by omega⟩, by rw [upd_ne ne]; exact hsc, ne⟩
      generalize upd H st (.lst ([V.int a, V.int (bn : Int), V.ref sc, V.int d].set 1 (V.int ((bn : Int) + 1)))) = H1 at h1 w1 ⊢
      refine q_setV (evv_c (v := .int 0)) ?_
      change Evl.tCut _ _ _ [some (.ref st), some (.int (L : Int)), some (.int (bn : Int)), some (.int 0), none, none] H1
      refine ⟨fun σ' H' => ∃ cell : Int, σ' = [some (.ref st), some (.int (L : Int)), some (.int (bn : Int)), some (.int cell), none, none] ∧ H' = H1, ?_, ?_⟩
      · refine ⟨_, rfl, evv_ixL h1 (evv_var (i := 0) rfl) (evv_c (v := .int ((2 : Nat) : Int))) rfl H1 (Same.refl _) _ ⟨sc, _, rfl, .inl (sql w1.ds.hc), _, _, rfl, rfl, _, rfl, ite2 (fun c => ?_) (fun c => ⟨0, rfl, rfl⟩)⟩⟩
        have hlt : bn < (ns.map V.int).length := by
          have := of_decide_eq_true c
          omega
        have hlt2 : bn < ns.length := by rw [List.length_map] at hlt; exact hlt
        have hg : (ns.map V.int)[bn]? = some (.int ns[bn]) := by
          rw [List.getElem?_map, List.getElem?_eq_getElem hlt2]
          rfl
        exact l_raw (evv_ixL w1.ds.hc (evv_ixL h1 (evv_var (i := 0) rfl) (evv_c (v := .int ((2 : Nat) : Int))) rfl) (evv_var (i := 2) rfl) hg H1 (Same.refl _) _ ⟨_, rfl, rfl⟩)
      · rintro σ' H' ⟨cell, rfl, rfl⟩
        refine ⟨_, rfl, _, _, rfl, rfl, ⟨by decide, by decide, by decide⟩, _, _, rfl, rfl, _, rfl, ite2 (fun c => ?_) (fun c => ?_)⟩
        · refine l_setI (k := 0) (evv_var (i := 3) rfl) rfl h1 (by show 0 < 4; decide) ⟨_, _, _, rfl, ?_⟩
          exact ⟨w1.sb.trans Sb.upd, ⟨cell, _, d, upd_same, by omega⟩, by rw [upd_ne ne]; exact w1.ds.hc, ne⟩
        · refine q_setI (k := 3) (evv_iC (by decide) (evv_int (evv_iC (.inr ⟨by decide, by decide⟩) (evv_i0 (evv_i0 (evv_i0 (evv_ixL h1 (evv_var (i := 0) rfl) (evv_c (v := .int ((3 : Nat) : Int))) rfl) (evv_iC (by decide) (evv_int (evv_var (i := 3) rfl)) (evv_c (v := .int 2147483629)))) (evv_var (i := 2) rfl)) (evv_c (v := .int 1))) (evv_c (v := .int 48271)))) (evv_c (v := .int 2147483647))) rfl h1 (by show 3 < 4; decide) ?_
          generalize ((((d + cell.fmod 2147483629) + (bn : Int) + 1) * 48271).fmod 2147483647) = d2
          have h2 : upd H' st (.lst ([V.int a, V.int ((bn : Int) + 1), V.ref sc, V.int d].set 3 (V.int d2))) st = some (.lst [.int a, .int ((bn : Int) + 1), .ref sc, .int d2]) := upd_same
          have w2 : Wk st sc ns H (upd H' st (.lst ([V.int a, V.int ((bn : Int) + 1), V.ref sc, V.int d].set 3 (V.int d2)))) := ⟨w1.sb.trans Sb.upd, ⟨a, _, d2, h2, by omega⟩, by rw [upd_ne ne]; exact w1.ds.hc, ne⟩
          generalize upd H' st (.lst ([V.int a, V.int ((bn : Int) + 1), V.ref sc, V.int d].set 3 (V.int d2))) = H2 at h2 w2 ⊢
          refine q_setV (evv_iC (by decide) (evv_int (evv_i0 (evv_iC (.inr ⟨by decide, by decide⟩) (evv_ixL h2 (evv_var (i := 0) rfl) (evv_c (v := .int ((3 : Nat) : Int))) rfl) (evv_c (v := .int 69621))) (evv_c (v := .int 11)))) (evv_c (v := .int 2147483629))) ?_
          generalize ((d2 * 69621 + 11).fmod 2147483629) = mx
          change tAsg _ _ _ [some (.ref st), some (.int (L : Int)), some (.int (bn : Int)), some (.int cell), some (.int mx), none] H2
          refine l_setI (k := 0) (evv_i0 (evv_iC (.inr ⟨by decide, by decide⟩) (evv_var (i := 4) rfl) (evv_c (v := .int 2147483647))) (evv_iC (by decide) (evv_int (evv_i0 (evv_iC (.inr ⟨by decide, by decide⟩) (evv_var (i := 4) rfl) (evv_c (v := .int 30011))) (evv_ixL h2 (evv_var (i := 0) rfl) (evv_c (v := .int ((3 : Nat) : Int))) rfl))) (evv_c (v := .int 2147483587)))) rfl h2 (by show 0 < 4; decide) ⟨_, _, _, rfl, ?_⟩
          exact ⟨w2.sb.trans Sb.upd, ⟨_, _, d2, upd_same, by omega⟩, by rw [upd_ne ne]; exact w2.ds.hc, ne⟩
    · rintro σ' H' ⟨y2, y3, y4, rfl, w1⟩
      obtain ⟨⟨a', b', d', h1, hb'⟩, hc1, _⟩ := w1.ds
      have Lne : (L : Int) ≠ 0 := by omega
      refine q_setV (evv_iC Lne (evv_int (evv_ixL h1 (evv_var (i := 0) rfl) (evv_c (v := .int ((0 : Nat) : Int))) rfl)) (evv_var (i := 1) rfl)) ?_
      change tSeq _ _ _ [some (.ref st), some (.int (L : Int)), y2, y3, y4, some (.int (a'.fmod (L : Int)))] H'
      refine q_setI (k := 0) (evv_iC ⟨Lne, by omega⟩ (evv_ixL h1 (evv_var (i := 0) rfl) (evv_c (v := .int ((0 : Nat) : Int))) rfl) (evv_var (i := 1) rfl)) rfl h1 (by show 0 < 4; decide) ?_
      have m1 : 0 ≤ a'.fmod (L : Int) := Int.fmod_nonneg_of_pos a' (by omega)
      have m2 : a'.fmod (L : Int) < (L : Int) := Int.fmod_lt_of_pos a' (by omega)
      obtain ⟨z, hz⟩ : ∃ z : Nat, a'.fmod (L : Int) = (z : Int) := ⟨(a'.fmod (L : Int)).toNat, by omega⟩
      rw [hz] at m2 ⊢
      refine ⟨_, rfl, k z _ (by omega) ⟨w1.sb.trans Sb.upd, ⟨_, b', d', upd_same, hb'⟩, by rw [upd_ne ne]; exact hc1, ne⟩⟩
end
end Arc


namespace Arc
open PySem PySem.Spec PyProof.Rows L2
/-! ### a draw, somewhere in an expression -/
section
variable {K : PySem.W.Frag} {st sc : Addr} {ns : List Int} {σ : St} {H : Hp} {ta tb te tn : TE} {tt : TT} {u : TS} {D : Ends}
theorem l_ret {v : V} (h : EvV te σ H v) (q : D.rt v H) : tRet te D σ H := h H (Same.refl _) _ q
theorem draw_at {L : Nat} {Q : VK} (D0 : DS st sc ns H) (h1 : 1 ≤ L) (h2 : L ≤ 1000) (ha : EvV ta σ H (.ref st)) (hb : EvV tb σ H (.int (L : Int))) (q : ∀ (z : Nat) H', z < L → Wk st sc ns H H' → Q (.int (z : Int)) H') :
    tCall spDraw [] E0 (tCons ta (tCons tb tNil)) σ H Q := ha H (Same.refl _) _ (hb H (Same.refl _) _ ⟨st, sc, ns, L, rfl, D0, h1, h2, q⟩)
/-- [e for x in range(n)], e may draw -/
theorem lc_w {n j : Nat} {vs : List Nat} {P : Nat → V → Hp → Prop} (D0 : DS st sc ns H) (hn : EvV tn σ H (.int (n : Int))) (hz : n ≤ 1000) (hw : ∀ x, wipe ((wipe σ vs).set j (some x)) vs = wipe σ vs) (Pm : ∀ i v H1 H2, P i v H1 → Tp H1 H2 → P i v H2)
    (he : ∀ i H1, i < n → Wk st sc ns H H1 → ∀ Q : VK, (∀ v H2, Wk st sc ns H1 H2 → P i v H2 → Q v H2) → te ((wipe σ vs).set j (some (.int (i : Int)))) H1 Q) {Q : VK}
    (q : ∀ l xs H2, H l = none → Wk st sc ns H H2 → H2 l = some (.lst xs) → xs.length = n → (∀ i v, xs[i]? = some v → P i v H2) → Q (.ref l) H2) :
    tLc (iRng1 (tCons tn tNil)) (gName j) tYes te vs σ H Q :=
  hn H (Same.refl _) _ ⟨(n : Int), rfl, by omega, by omega, fun l hl => lc_it (n := n) (by rw [Int.toNat_natCast]; exact walk_range) (fun i H' => Wk st sc ns H H' ∧ ∃ xs, H' l = some (.lst xs) ∧ xs.length = i ∧ ∀ j v, xs[j]? = some v → P j v H')
    ⟨Wk.of D0 (same_new hl), [], upd_same, rfl, fun j v h => by simp at h⟩ (fun _ _ _ _ => trivial) (fun i x H2 H3 hi hP hy => by
      obtain ⟨rfl, rfl⟩ := hy
      obtain ⟨w, xs, h1, h2, h3⟩ := hP
      refine ⟨hw _, ?_⟩
      show te ((wipe σ vs).set j (some (.int (0 + (i : Int))))) H3 _
      rw [Int.zero_add]
      refine he i H3 hi w _ fun v H4 w4 p4 => ?_
      have lst : l ≠ st := D0.ne_new hl
      have h4 := w4.at_ lst h1
      refine ⟨xs, h4, szlt (by omega), Wk.mut D0 (w.trans w4) hl, _, upd_same, by rw [List.length_append, h2]; rfl, fun j v' hj => ?_⟩
      by_cases hlt : j < xs.length
      · rw [List.getElem?_append_left hlt] at hj
        exact Pm _ _ _ _ (h3 j v' hj) ((w4.tp w.ds).trans (tp_lst h4))
      · rw [List.getElem?_append_right (by omega)] at hj
        have e0 : j - xs.length = 0 := by
          have := (List.getElem?_eq_some_iff.mp hj).1
          rw [List.length_singleton] at this
          omega
        rw [e0] at hj
        have ev : v = v' := Option.some.inj hj
        have ej : j = i := by omega
        rw [← ev, ej]
        exact Pm _ _ _ _ p4 (tp_lst h4)) (fun H' hP => by
      obtain ⟨w, xs, h1, h2, h3⟩ := hP
      exact q l xs H' hl w h1 h2 h3)⟩
/-- tuple([..]) of it -/
theorem tup_w {n j : Nat} {vs : List Nat} {P : Nat → V → Hp → Prop} (D0 : DS st sc ns H) (hn : EvV tn σ H (.int (n : Int))) (hz : n ≤ 1000) (hw : ∀ x, wipe ((wipe σ vs).set j (some x)) vs = wipe σ vs) (Pm : ∀ i v H1 H2, P i v H1 → Tp H1 H2 → P i v H2)
    (he : ∀ i H1, i < n → Wk st sc ns H H1 → ∀ Q : VK, (∀ v H2, Wk st sc ns H1 H2 → P i v H2 → Q v H2) → te ((wipe σ vs).set j (some (.int (i : Int)))) H1 Q) {Q : VK}
    (q : ∀ t xs H2, H t = none → Wk st sc ns H H2 → H2 t = some (.tup xs) → xs.length = n → (∀ i v, xs[i]? = some v → P i v H2) → Q (.ref t) H2) :
    tCB (tTupO K) (tCons (tLc (iRng1 (tCons tn tNil)) (gName j) tYes te vs) tNil) σ H Q := by
  show tLc (iRng1 (tCons tn tNil)) (gName j) tYes te vs σ H (fun v H1 => tTupO K [v] H1 Q)
  exact lc_w D0 hn hz hw Pm he fun l xs H2 hl w h1 h2 h3 => ⟨l, xs, rfl, .inl ⟨sql h1, fun t ht => q t xs _ (w.free D0 ht) (w.same (same_new ht)) upd_same h2 fun i v hi => Pm _ _ _ _ (h3 i v hi) (tp_new ht)⟩⟩
/-- its items are small numbers -/
def Small (n : Nat) (_ : Nat) (v : V) (_ : Hp) : Prop := ∃ z : Nat, v = .int (z : Int) ∧ z < n
theorem small_tab {n m : Nat} {xs : List V} {H : Hp} (hl : xs.length = m) (h : ∀ i v, xs[i]? = some v → Small n i v H) : ∃ f : Nat → Nat, xs = tabV m f ∧ ∀ i, i < m → f i < n := by
  have key : ∀ (xs : List V), (∀ v ∈ xs, ∃ z : Nat, v = .int (z : Int) ∧ z < n) → ∃ zs : List Nat, xs = intsV zs ∧ ∀ z ∈ zs, z < n := by
    intro xs
    induction xs with
    | nil => exact fun _ => ⟨[], rfl, fun z h => by cases h⟩
    | cons x r ih =>
      intro h
      obtain ⟨z, rfl, hz⟩ := h x List.mem_cons_self
      obtain ⟨zs, rfl, hzs⟩ := ih fun v hv => h v (List.mem_cons_of_mem _ hv)
      exact ⟨z :: zs, rfl, fun y hy => by
        rcases List.mem_cons.mp hy with rfl | hy
        · exact hz
        · exact hzs y hy⟩
  obtain ⟨zs, rfl, hz⟩ := key xs fun v hv => by
    obtain ⟨i, hi⟩ := List.mem_iff_getElem?.mp hv
    exact h i v hi
  rw [intsV_len] at hl
  refine ⟨fun i => zs.getD i 0, ?_, fun i hi => ?_⟩
  · refine List.ext_getElem? fun i => ?_
    by_cases hi : i < m
    · rw [tabV_get _ hi]
      unfold intsV
      rw [List.getElem?_map, List.getElem?_eq_getElem (by omega)]
      show some (V.int ((zs[i] : Nat) : Int)) = some (V.int ((zs.getD i 0 : Nat) : Int))
      rw [List.getD_eq_getElem?_getD, List.getElem?_eq_getElem (by omega)]
      rfl
    · rw [List.getElem?_eq_none (by rw [intsV_len]; omega), List.getElem?_eq_none (by rw [tabV_len]; omega)]
  · show zs.getD i 0 < n
    rw [List.getD_eq_getElem?_getD, List.getElem?_eq_getElem (by omega)]
    exact hz _ (List.getElem_mem _)
/-- its items are rows of small numbers -/
def Row (n m : Nat) (_ : Nat) (v : V) (H : Hp) : Prop := ∃ t f, v = .ref t ∧ H t = some (.tup (tabV m f)) ∧ ∀ y, y < m → f y < n
theorem Row.tp {n m i : Nat} {v : V} {H1 H2 : Hp} (h : Row n m i v H1) (e : Tp H1 H2) : Row n m i v H2 := by
  obtain ⟨t, f, h1, h2, h3⟩ := h
  exact ⟨t, f, h1, e _ _ h2, h3⟩
theorem pick {α : Type} [Inhabited α] {n : Nat} {P : Nat → α → Prop} (h : ∀ i, i < n → ∃ x, P i x) : ∃ F : Nat → α, ∀ i, i < n → P i (F i) := by
  refine ⟨fun i => if hi : i < n then Classical.choose (h i hi) else default, fun i hi => ?_⟩
  show P i (if hi : i < n then Classical.choose (h i hi) else default)
  rw [dif_pos hi]
  exact Classical.choose_spec (h i hi)
theorem rows_pick {n m k : Nat} {xs : List V} {H : Hp} (hl : xs.length = k) (h : ∀ i v, xs[i]? = some v → Row n m i v H) : ∃ F : Nat → Nat → Nat, RowsAt H k (fun i p => H p = some (.tup (tabV m (F i)))) xs ∧ ∀ i y, i < k → y < m → F i y < n := by
  obtain ⟨F, hF⟩ := pick (α := Nat → Nat) (n := k) (P := fun i f => (∃ p, xs[i]? = some (.ref p) ∧ H p = some (.tup (tabV m f))) ∧ ∀ y, y < m → f y < n) fun i hi => by
    obtain ⟨t, f, h1, h2, h3⟩ := h i xs[i] (List.getElem?_eq_getElem (by omega))
    exact ⟨f, ⟨t, by rw [List.getElem?_eq_getElem (by omega), h1], h2⟩, h3⟩
  exact ⟨F, ⟨hl, fun i hi => (hF i hi).1⟩, fun i y hi hy => (hF i hi).2 y hy⟩
/-- .. rows of rows -/
def Row2 (n m r : Nat) (_ : Nat) (v : V) (H : Hp) : Prop := ∃ t us, v = .ref t ∧ H t = some (.tup us) ∧ us.length = r ∧ ∀ i v, us[i]? = some v → Row n m i v H
theorem Row2.tp {n m r i : Nat} {v : V} {H1 H2 : Hp} (h : Row2 n m r i v H1) (e : Tp H1 H2) : Row2 n m r i v H2 := by
  obtain ⟨t, us, h1, h2, h3, h4⟩ := h
  exact ⟨t, us, h1, e _ _ h2, h3, fun i v hi => (h4 i v hi).tp e⟩
theorem rows2_pick {n m r k : Nat} {xs : List V} {H : Hp} (hl : xs.length = k) (h : ∀ i v, xs[i]? = some v → Row2 n m r i v H) :
    ∃ F : Nat → Nat → Nat → Nat, RowsAt H k (fun a p => ∃ us, H p = some (.tup us) ∧ RowsAt H r (fun b q => H q = some (.tup (tabV m (F a b)))) us) xs ∧ ∀ a b y, a < k → b < r → y < m → F a b y < n := by
  obtain ⟨F, hF⟩ := pick (α := Nat → Nat → Nat) (n := k) (P := fun a f => (∃ p, xs[a]? = some (.ref p) ∧ ∃ us, H p = some (.tup us) ∧ RowsAt H r (fun b q => H q = some (.tup (tabV m (f b)))) us) ∧ ∀ b y, b < r → y < m → f b y < n) fun a ha => by
    obtain ⟨t, us, h1, h2, h3, h4⟩ := h a xs[a] (List.getElem?_eq_getElem (by omega))
    obtain ⟨F, h5, h6⟩ := rows_pick h3 h4
    exact ⟨F, ⟨t, by rw [List.getElem?_eq_getElem (by omega), h1], us, h2, h5⟩, h6⟩
  exact ⟨F, ⟨hl, fun a ha => (hF a ha).1⟩, fun a b y ha hb hy => (hF a ha).2 b y hb hy⟩
end
/-! ### _law_product -/
def spProd : Sp := fun vs H Q _ => ∃ kd n x y, vs = [.int ((kd : Nat) : Int), .int ((n : Nat) : Int), .int ((x : Nat) : Int), .int ((y : Nat) : Int)] ∧ 1 ≤ n ∧ x < n ∧ y < n ∧ ∀ z : Nat, z < n → Q (.int (z : Int)) H
section
variable {P : Program} {w : World} {K : PySem.W.Frag} {mg : Str → Option Value} {base : Heap}
abbrev nProd : List Str := ["_law_kind", "_law_count", "_law_x", "_law_y"]
theorem scProd : FnScope nProd nProd (defScope sProd) := ⟨rfl, rfl, rfl, by decide +kernel, rfl, by decide +kernel, by decide +kernel⟩
theorem ok_prod (F : DefAt K mg "_law_product" sProd) (T : Tx mg) : Dn P w K mg base "_law_product" 1 nProd spProd := by
  refine dn_mk F scProd (fun _ _ _ _ _ _ us hl => match us, hl with | [_, _, _, _], _ => rfl) (fun vs H Q E h => ?_) (fun f cdv A outer s H vs Q E hr h => ?_)
  · obtain ⟨kd, n, x, y, rfl, _⟩ := h
    rfl
  · obtain ⟨kd, n, x, y, rfl, h1, hx, hy, k⟩ := h
    refine ⟨_, (pss_cons (ps_if (pt_cmpR op_eq (pv 0) pe_int (nomark _))
        (pss_one (ps_ret (pe_op op_modN (pe_callTy (r := rInt) call_intO (by rfl) T.int (by decide +kernel) (pa_cons (pe_op op_add (pv 2) (pv 3)) pa_nil)) (pv 1))))
        pss_nil)
      (pss_cons (ps_if (pt_cmpR op_eq (pv 0) pe_int (nomark _))
        (pss_one (ps_ret (pe_callB (r := rMx) (call_mx rfl) (by rfl) T.max (by decide +kernel) (pa_cons (pv 2) (pa_cons (pv 3) pa_nil)))))
        pss_nil)
      (pss_cons (ps_if (pt_cmpR op_eq (pv 0) pe_int (nomark _))
        (pss_one (ps_ret (pe_ifExp (pt_cmpR op_eq (pv 3) pe_int (nomark _)) (pv 2) (pv 3))))
        pss_nil)
      (pss_one (ps_ret (pe_ifExp (pt_cmpR op_eq (pv 2) pe_int (nomark _)) (pv 3) (pv 2))))))), ?_⟩
    have nne : (n : Int) ≠ 0 := by omega
    refine ⟨_, rfl, rfl, _, rfl, ite2 (fun c => ?_) (fun c => ?_)⟩
    · refine l_ret (evv_iC nne (evv_int (evv_i0 (evv_var (i := 2) rfl) (evv_var (i := 3) rfl))) (evv_var (i := 1) rfl)) ?_
      have m1 : 0 ≤ ((x : Int) + (y : Int)).fmod (n : Int) := Int.fmod_nonneg_of_pos _ (by omega)
      have m2 : ((x : Int) + (y : Int)).fmod (n : Int) < (n : Int) := Int.fmod_lt_of_pos _ (by omega)
      obtain ⟨z, hz⟩ : ∃ z : Nat, ((x : Int) + (y : Int)).fmod (n : Int) = (z : Int) := ⟨(((x : Int) + (y : Int)).fmod (n : Int)).toNat, by omega⟩
      show Q (.int (((x : Int) + (y : Int)).fmod (n : Int))) H
      rw [hz] at m2 ⊢
      exact k z (by omega)
    · refine ⟨_, rfl, rfl, _, rfl, ite2 (fun c => ?_) (fun c => ?_)⟩
      · refine ⟨_, rfl, _, rfl, _, _, rfl, ?_⟩
        by_cases e : (y : Int) > (x : Int)
        · rw [if_pos e]; exact k y hy
        · rw [if_neg e]; exact k x hx
      · refine ⟨_, rfl, rfl, _, rfl, ite2 (fun c => ?_) (fun c => ?_)⟩
        · refine ⟨_, rfl, rfl, _, rfl, ite2 (fun c => ⟨_, rfl, k x hx⟩) (fun c => ⟨_, rfl, k y hy⟩)⟩
        · refine ⟨_, rfl, rfl, _, rfl, ite2 (fun c => ⟨_, rfl, k y hy⟩) (fun c => ⟨_, rfl, k x hx⟩)⟩
end
/-! ### _law_small_reader -/
def spRdr : Sp := fun vs H Q _ => ∃ st sc ns la l c r, vs = [.ref st, .ref la] ∧ DS st sc ns H ∧ H la = some (.tup [.int ((l : Nat) : Int), .int ((c : Nat) : Int), .int ((r : Nat) : Int)]) ∧ l ≤ 2 ∧ c ≤ 2 ∧ r ≤ 2 ∧
  ∀ v R H', Wk st sc ns H H' → RdAt H' R v → Rdr.Ok R → R.l = l → R.c = c → R.r = r → Q v H'
section
variable {P : Program} {w : World} {K : PySem.W.Frag} {mg : Str → Option Value} {base : Heap}
abbrev nRdr : List Str := ["_law_state", "_law_labels", "_law_count", "_law_kind", "_law_mul", "_law_letters", "_law_wrap", "_law_accepted", "_law_x", "_law_y", "_law_k", "_law_b", "_law_a"]
theorem scRdr : FnScope nRdr ["_law_state", "_law_labels"] (defScope sRdr) := ⟨rfl, rfl, rfl, by decide +kernel, rfl, by decide +kernel, by decide +kernel⟩
theorem ok_rdr (F : DefAt K mg "_law_small_reader" sRdr) (T : Tx mg) (GD : Dn P w K mg base "_law_draw" 1 ["_law_state", "_law_limit"] spDraw) (GP : Dn P w K mg base "_law_product" 1 nProd spProd) : Dn P w K mg base "_law_small_reader" 2 ["_law_state", "_law_labels"] spRdr := by
  refine dn_mk F scRdr (fun _ _ _ _ _ _ us hl => match us, hl with | [_, _], _ => rfl) (fun vs H Q E h => ?_) (fun f cdv A outer s H vs Q E hr h => ?_)
  · obtain ⟨st, sc, ns, la, l, c, r, rfl, _⟩ := h
    rfl
  · obtain ⟨st, sc, ns, la, l, c, r, rfl, D0, hla, hl, hc, hrr, k⟩ := h
    refine ⟨_, (pss_cons (ps_set (i := 2) scRdr.nd rfl (.inr rfl) (pe_op op_add pe_int (pe_dn GD hr rfl (pa_cons (pv 0) (pa_cons pe_int pa_nil)))))
      (pss_cons (ps_set (i := 3) scRdr.nd rfl (.inr rfl) (pe_dn GD hr rfl (pa_cons (pv 0) (pa_cons pe_int pa_nil))))
      (pss_cons (ps_set (i := 4) scRdr.nd rfl (.inl rfl) (pe_callTy (r := tTupO K) call_tupO (by rfl) T.tuple (by decide +kernel) (pa_cons (pe_lc (own := [("_law_x", 8)]) (g := gName 8) (tt := tYes) rfl scRdr.nd (pi_range1 rfl T.range (pa_cons (pv 2) pa_nil)) (blkOk_by (N := nRdr) (sc := defScope sRdr) (by decide +kernel)) (fun _ _ _ _ _ => (pg_name (i := 8) scRdr.nd rfl (.inr rfl))) (fun _ _ _ _ _ => pts_nil) (fun _ _ _ _ _ => (pe_callTy (r := tTupO K) call_tupO (by rfl) T.tuple (by decide +kernel) (pa_cons (pe_lc (own := [("_law_y", 9)]) (g := gName 9) (tt := tYes) rfl scRdr.nd (pi_range1 rfl T.range (pa_cons (pv 2) pa_nil)) (blkOk_by (N := nRdr) (by kernel_rfl)) (fun _ _ _ _ _ => (pg_name (i := 9) scRdr.nd rfl (.inl rfl))) (fun _ _ _ _ _ => pts_nil) (fun _ _ _ _ _ => (pe_dn GP hr rfl (pa_cons (pv 3) (pa_cons (pv 2) (pa_cons (pv 8) (pa_cons (pv 9) pa_nil))))))) pa_nil)))) pa_nil)))
      (pss_cons (ps_set (i := 5) scRdr.nd rfl (.inl rfl) (pe_callTy (r := tTupO K) call_tupO (by rfl) T.tuple (by decide +kernel) (pa_cons (pe_lc (own := [("_law_k", 10)]) (g := gName 10) (tt := tYes) rfl scRdr.nd (pi_range1 rfl T.range (pa_cons (pe_ix (r := rIxT K) ix_tup (pv 1) pe_int (fun _ _ => rfl)) pa_nil)) (blkOk_by (N := nRdr) (sc := defScope sRdr) (by decide +kernel)) (fun _ _ _ _ _ => (pg_name (i := 10) scRdr.nd rfl (.inl rfl))) (fun _ _ _ _ _ => pts_nil) (fun _ _ _ _ _ => (pe_dn GD hr rfl (pa_cons (pv 0) (pa_cons (pv 2) pa_nil))))) pa_nil)))
      (pss_cons (ps_set (i := 6) scRdr.nd rfl (.inl rfl) (pe_callTy (r := tTupO K) call_tupO (by rfl) T.tuple (by decide +kernel) (pa_cons (pe_lc (own := [("_law_a", 12)]) (g := gName 12) (tt := tYes) rfl scRdr.nd (pi_range1 rfl T.range (pa_cons (pe_ix (r := rIxT K) ix_tup (pv 1) pe_int (fun _ _ => rfl)) pa_nil)) (blkOk_by (N := nRdr) (sc := defScope sRdr) (by decide +kernel)) (fun _ _ _ _ _ => (pg_name (i := 12) scRdr.nd rfl (.inl rfl))) (fun _ _ _ _ _ => pts_nil) (fun _ _ _ _ _ => (pe_callTy (r := tTupO K) call_tupO (by rfl) T.tuple (by decide +kernel) (pa_cons (pe_lc (own := [("_law_b", 11)]) (g := gName 11) (tt := tYes) rfl scRdr.nd (pi_range1 rfl T.range (pa_cons (pe_ix (r := rIxT K) ix_tup (pv 1) pe_int (fun _ _ => rfl)) pa_nil)) (blkOk_by (N := nRdr) (by kernel_rfl)) (fun _ _ _ _ _ => (pg_name (i := 11) scRdr.nd rfl (.inl rfl))) (fun _ _ _ _ _ => pts_nil) (fun _ _ _ _ _ => (pe_callTy (r := tTupO K) call_tupO (by rfl) T.tuple (by decide +kernel) (pa_cons (pe_lc (own := [("_law_x", 8)]) (g := gName 8) (tt := tYes) rfl scRdr.nd (pi_range1 rfl T.range (pa_cons (pv 2) pa_nil)) (blkOk_by (N := nRdr) (by kernel_rfl)) (fun _ _ _ _ _ => (pg_name (i := 8) scRdr.nd rfl (.inl rfl))) (fun _ _ _ _ _ => pts_nil) (fun _ _ _ _ _ => (pe_dn GD hr rfl (pa_cons (pv 0) (pa_cons (pv 2) pa_nil))))) pa_nil)))) pa_nil)))) pa_nil)))
      (pss_cons (ps_set (i := 7) scRdr.nd rfl (.inl rfl) (pe_callTy (r := tTupO K) call_tupO (by rfl) T.tuple (by decide +kernel) (pa_cons (pe_lc (own := [("_law_x", 8)]) (g := gName 8) (tt := _) rfl scRdr.nd (pi_range1 rfl T.range (pa_cons (pv 2) pa_nil)) (blkOk_by (N := nRdr) (sc := defScope sRdr) (by decide +kernel)) (fun _ _ _ _ _ => (pg_name (i := 8) scRdr.nd rfl (.inl rfl))) (fun _ _ _ _ _ => (pts_one (pt_cmpR op_eq (pe_dn GD hr rfl (pa_cons (pv 0) (pa_cons pe_int pa_nil))) pe_int (nomark _)))) (fun _ _ _ _ _ => (pv 8))) pa_nil)))
      (pss_one (ps_ret (pe_tup (pa_cons (pv 1) (pa_cons pe_int (pa_cons (pv 5) (pa_cons (pv 4) (pa_cons (pv 6) (pa_cons (pv 7) pa_nil))))))))))))))), ?_⟩
    change tSeq _ _ _ [some (.ref st), some (.ref la), none, none, none, none, none, none, none, none, none, none, none] H
    refine draw_at (L := 3) D0 (by decide) (by decide) (evv_var (i := 0) rfl) evv_c fun z H1 hz w1 => ⟨_, _, rfl, rfl, ?_⟩
    obtain ⟨n, hn⟩ : ∃ n : Nat, (1 : Int) + (z : Int) = (n : Int) := ⟨1 + z, by omega⟩
    dsimp only
    rw [hn]
    have n1 : 1 ≤ n := by omega
    have n3 : n ≤ 3 := by omega
    change tSeq _ _ _ [some (.ref st), some (.ref la), some (.int (n : Int)), none, none, none, none, none, none, none, none, none, none] H1
    refine draw_at (L := 4) w1.ds (by decide) (by decide) (evv_var (i := 0) rfl) evv_c fun kd H2 hkd w2 => ?_
    dsimp only
    change tSeq _ _ _ [some (.ref st), some (.ref la), some (.int (n : Int)), some (.int (kd : Int)), none, none, none, none, none, none, none, none, none] H2
    have w2 := w1.trans w2
    have D2 := w2.ds
    -- mul
    refine q_raw (tup_w (n := n) (P := Row n n) D2 (evv_var (i := 2) rfl) (by omega) (fun _ => rfl) (fun _ _ _ _ h e => h.tp e) (fun x H3 hx w3 Q q => ?_) fun tm ms H3 htm w3 hm hml hP => ?_)
    · exact tup_w (n := n) (P := Small n) w3.ds (evv_var (i := 2) rfl) (by omega) (fun _ => rfl) (fun _ _ _ _ h _ => h) (fun y H4 hy w4 Q q => ⟨_, rfl, _, rfl, _, rfl, _, rfl, kd, n, x, y, rfl, n1, hx, hy, fun z hz => q _ H4 (Wk.refl w4.ds) ⟨z, rfl, hz⟩⟩)
        fun t xs H4 ht w4 h4 hl hp => by
          obtain ⟨f, e, hf⟩ := small_tab hl hp
          exact q _ H4 w4 ⟨t, f, rfl, by rw [h4, e], hf⟩
    obtain ⟨F, hF1, hF2⟩ := rows_pick hml hP
    change tSeq _ _ _ [some (.ref st), some (.ref la), some (.int (n : Int)), some (.int (kd : Int)), some (.ref tm), none, none, none, none, none, none, none, none] H3
    have lst : la ≠ st := by
      obtain ⟨⟨_, _, _, e, _⟩, _, _⟩ := D0
      exact ne_of hla e (by intro z; cases z)
    have hla3 := w3.at_ lst (w2.at_ lst hla)
    -- letters
    refine q_raw (tup_w (n := l) (P := Small n) w3.ds (evv_ix hla3 (evv_var (i := 1) rfl) (evv_c (v := .int ((0 : Nat) : Int))) rfl) (by omega) (fun _ => rfl) (fun _ _ _ _ h _ => h) (fun x H4 hx w4 Q q =>
      draw_at (L := n) w4.ds n1 (by omega) (evv_var (i := 0) rfl) (evv_var (i := 2) rfl) fun z H5 hz w5 => q _ H5 w5 ⟨z, rfl, hz⟩) fun tl ls H4 htl w4 hlt hll hP2 => ?_)
    obtain ⟨fl, el, hfl⟩ := small_tab hll hP2
    change tSeq _ _ _ [some (.ref st), some (.ref la), some (.int (n : Int)), some (.int (kd : Int)), some (.ref tm), some (.ref tl), none, none, none, none, none, none, none] H4
    have hla4 := w4.at_ lst hla3
    -- wrap
    refine q_raw (tup_w (n := c) (P := Row2 n n r) w4.ds (evv_ix hla4 (evv_var (i := 1) rfl) (evv_c (v := .int ((1 : Nat) : Int))) rfl) (by omega) (fun _ => rfl) (fun _ _ _ _ h e => h.tp e) (fun x H5 hx w5 Q q => ?_) fun tw ws H5 htw w5 hw hwl hP3 => ?_)
    · refine tup_w (n := r) (P := Row n n) w5.ds (evv_ix (w5.at_ lst hla4) (evv_var (i := 1) rfl) (evv_c (v := .int ((2 : Nat) : Int))) rfl) (by omega) (fun _ => rfl) (fun _ _ _ _ h e => h.tp e) (fun y H6 hy w6 Q q => ?_) fun t us H6 ht w6 h6 hl hp => q _ H6 w6 ⟨t, us, rfl, h6, hl, hp⟩
      exact tup_w (n := n) (P := Small n) w6.ds (evv_var (i := 2) rfl) (by omega) (fun _ => rfl) (fun _ _ _ _ h _ => h) (fun z H7 hz w7 Q q => draw_at (L := n) w7.ds n1 (by omega) (evv_var (i := 0) rfl) (evv_var (i := 2) rfl) fun z H8 hz w8 => q _ H8 w8 ⟨z, rfl, hz⟩)
        fun t xs H7 ht w7 h7 hl hp => by
          obtain ⟨f, e, hf⟩ := small_tab hl hp
          exact q _ H7 w7 ⟨t, f, rfl, by rw [h7, e], hf⟩
    obtain ⟨G, hG1, hG2⟩ := rows2_pick hwl hP3
    change tSeq _ _ _ [some (.ref st), some (.ref la), some (.int (n : Int)), some (.int (kd : Int)), some (.ref tm), some (.ref tl), some (.ref tw), none, none, none, none, none, none] H5
    -- accepted
    refine q_raw ⟨_, rfl, (n : Int), rfl, by omega, by omega, fun D hD => lc_it (n := n) (by rw [Int.toNat_natCast]; exact walk_range) (fun i H' => Wk st sc ns H5 H' ∧ ∃ vs : List Nat, H' D = some (.lst (intsV vs)) ∧ (∀ v ∈ vs, v < i) ∧ vs.length ≤ i)
      ⟨Wk.of w5.ds (same_new hD), [], upd_same, (fun v hv => (nomatch hv)), Nat.le_refl _⟩ (fun _ _ _ _ => trivial) ?_ ?_⟩
    · rintro i x H6 H7 hi ⟨w6, vs, h6, hv, hl6⟩ ⟨rfl, rfl⟩
      refine ⟨rfl, ?_⟩
      refine draw_at (L := 2) w6.ds (by decide) (by decide) (evv_var (i := 0) rfl) evv_c fun z H8 hz w8 => ⟨rfl, _, rfl, ite2 (fun c => ?_) (fun c => ?_)⟩
      · refine ⟨_, rfl, _, w8.at_ (w5.ds.ne_new hD) h6, szlt (by rw [intsV_len]; omega), Wk.mut w5.ds (w6.trans w8) hD, vs ++ [i], ?_, fun v hv' => ?_, by rw [List.length_append]; show vs.length + 1 ≤ i + 1; omega⟩
        · rw [upd_same]
          unfold intsV
          rw [List.map_append]
          show some (HO.lst (_ ++ [V.int (0 + ((i : Nat) : Int))])) = _
          rw [Int.zero_add]
          rfl
        · rcases List.mem_append.mp hv' with h | h
          · have := hv v h
            omega
          · rw [List.mem_singleton.mp h]
            exact Nat.lt_succ_self _
      · exact ⟨w6.trans w8, vs, w8.at_ (w5.ds.ne_new hD) h6, fun v h => by have := hv v h; omega, by omega⟩
    · rintro H6 ⟨w6, vs, h6, hv, hl6⟩
      refine ⟨D, _, rfl, .inl ⟨sql h6, fun ta hta => ?_⟩⟩
      have w7 := w6.same (same_new (o := .tup (intsV vs)) hta)
      have h7 : upd H6 ta (.tup (intsV vs)) ta = some (.tup (intsV vs)) := upd_same
      generalize upd H6 ta (.tup (intsV vs)) = H7 at w7 h7 ⊢
      change tRet _ _ [some (.ref st), some (.ref la), some (.int (n : Int)), some (.int (kd : Int)), some (.ref tm), some (.ref tl), some (.ref tw), some (.ref ta), none, none, none, none, none] H7
      refine ⟨_, rfl, _, rfl, _, rfl, _, rfl, _, rfl, by show 6 ≤ sizeLine; decide, fun a ha => ?_⟩
      have t7 : ∀ {o : HO}, Tp H7 (upd H7 a o) := tp_new ha
      have t57 := w7.tp w5.ds
      have t47 := (w5.tp w4.ds).trans t57
      have t37 := (w4.tp w3.ds).trans t47
      refine k (.ref a) ⟨l, c, r, n, fl, F, G, vs⟩ _ ((w2.trans (w3.trans (w4.trans (w5.trans w7)))).same (same_new ha)) ⟨a, la, tl, tm, tw, ta, ms, ws, rfl, ⟨upd_same, ?_, ?_, ?_, ⟨hF1.1, fun x hx => ?_⟩, ?_, ⟨hG1.1, fun x hx => ?_⟩, ?_⟩⟩
        ⟨hl, hc, hrr, n1, n3, hfl, fun x y hx hy => hF2 x y hx hy, fun a b x ha hb hx => hG2 a b x ha hb hx, hv, by show vs.length ≤ 3; omega⟩ rfl rfl rfl
      · exact t7 _ _ (t47 _ _ hla4)
      · rw [← el]
        exact t7 _ _ (t47 _ _ hlt)
      · exact t7 _ _ (t37 _ _ hm)
      · obtain ⟨p, e1, e2⟩ := hF1.2 x hx
        exact ⟨p, e1, t7 _ _ (t37 _ _ e2)⟩
      · exact t7 _ _ (t57 _ _ hw)
      · obtain ⟨p, e1, us, e2, e3, e4⟩ := hG1.2 x hx
        refine ⟨p, e1, us, t7 _ _ (t57 _ _ e2), e3, fun y hy => ?_⟩
        obtain ⟨q, e5, e6⟩ := e4 y hy
        exact ⟨q, e5, t7 _ _ (t57 _ _ e6)⟩
      · exact t7 _ _ h7
end
end Arc


namespace Arc
open PySem PySem.Spec PyProof.Rows L2
/-! ### texts that are being made -/
structure TxtOk (l c r : Nat) (row : List Place) (d : Nat) : Prop where
  pre : PreOk row
  dep : (opn row row.length).length = d
  noset : ∀ (k a : Nat), row[k]? ≠ some (.set, a)
  lett : ∀ (k a : Nat), row[k]? = some (.letter, a) → a < l
  call : ∀ (k a : Nat), row[k]? = some (.call, a) → a < c
  ret : ∀ (k a : Nat), row[k]? = some (.ret, a) → a < r
theorem opn_app (row ext : List Place) : ∀ k, k ≤ row.length → opn (row ++ ext) k = opn row k
  | 0, _ => rfl
  | k + 1, h => by
    have ih := opn_app row ext k (by omega)
    show (match (row ++ ext)[k]? with
      | some (.call, _) => k :: opn (row ++ ext) k
      | some (.ret, _) => (opn (row ++ ext) k).tail
      | _ => opn (row ++ ext) k) = _
    rw [List.getElem?_append_left (by omega), ih]
    rfl
theorem at_app {row : List Place} {x y : Place} {k : Nat} (h : (row ++ [x])[k]? = some y) : (k < row.length ∧ row[k]? = some y) ∨ (k = row.length ∧ x = y) := by
  by_cases hk : k < row.length
  · rw [List.getElem?_append_left hk] at h
    exact .inl ⟨hk, h⟩
  · rw [List.getElem?_append_right (by omega)] at h
    have e : k - row.length = 0 := by
      have := (List.getElem?_eq_some_iff.mp h).1
      rw [List.length_singleton] at this
      omega
    rw [e] at h
    exact .inr ⟨by omega, Option.some.inj h⟩
theorem at_new (row : List Place) (x : Place) : (row ++ [x])[row.length]? = some x := by
  rw [List.getElem?_append_right (Nat.le_refl _), Nat.sub_self]
  rfl
theorem TxtOk.nil (l c r : Nat) : TxtOk l c r [] 0 := by
  refine ⟨fun k b h => ?_, rfl, fun k a h => ?_, fun k a h => ?_, fun k a h => ?_, fun k a h => ?_⟩ <;> simp at h
theorem TxtOk.letter {l c r d a : Nat} {row : List Place} (T : TxtOk l c r row d) (ha : a < l) : TxtOk l c r (row ++ [(.letter, a)]) d := by
  refine ⟨fun k b h => ?_, ?_, fun k b h => ?_, fun k b h => ?_, fun k b h => ?_, fun k b h => ?_⟩
  · rcases at_app h with ⟨hk, h⟩ | ⟨_, e⟩
    · rw [opn_app _ _ _ (by omega)]; exact T.pre k b h
    · cases e
  · rw [List.length_append]
    show (opn _ (row.length + 1)).length = d
    rw [opn_letter (at_new row _), opn_app _ _ _ (Nat.le_refl _)]
    exact T.dep
  · rcases at_app h with ⟨hk, h⟩ | ⟨_, e⟩
    · exact T.noset k b h
    · cases e
  · rcases at_app h with ⟨hk, h⟩ | ⟨_, e⟩
    · exact T.lett k b h
    · cases e; exact ha
  · rcases at_app h with ⟨hk, h⟩ | ⟨_, e⟩
    · exact T.call k b h
    · cases e
  · rcases at_app h with ⟨hk, h⟩ | ⟨_, e⟩
    · exact T.ret k b h
    · cases e
theorem TxtOk.callP {l c r d a : Nat} {row : List Place} (T : TxtOk l c r row d) (ha : a < c) : TxtOk l c r (row ++ [(.call, a)]) (d + 1) := by
  refine ⟨fun k b h => ?_, ?_, fun k b h => ?_, fun k b h => ?_, fun k b h => ?_, fun k b h => ?_⟩
  · rcases at_app h with ⟨hk, h⟩ | ⟨_, e⟩
    · rw [opn_app _ _ _ (by omega)]; exact T.pre k b h
    · cases e
  · rw [List.length_append]
    show (opn _ (row.length + 1)).length = d + 1
    rw [opn_call (at_new row _), opn_app _ _ _ (Nat.le_refl _), List.length_cons, T.dep]
  · rcases at_app h with ⟨hk, h⟩ | ⟨_, e⟩
    · exact T.noset k b h
    · cases e
  · rcases at_app h with ⟨hk, h⟩ | ⟨_, e⟩
    · exact T.lett k b h
    · cases e
  · rcases at_app h with ⟨hk, h⟩ | ⟨_, e⟩
    · exact T.call k b h
    · cases e; exact ha
  · rcases at_app h with ⟨hk, h⟩ | ⟨_, e⟩
    · exact T.ret k b h
    · cases e
theorem TxtOk.retP {l c r d a : Nat} {row : List Place} (T : TxtOk l c r row d) (hd : 0 < d) (ha : a < r) : TxtOk l c r (row ++ [(.ret, a)]) (d - 1) := by
  refine ⟨fun k b h => ?_, ?_, fun k b h => ?_, fun k b h => ?_, fun k b h => ?_, fun k b h => ?_⟩
  · rcases at_app h with ⟨hk, h⟩ | ⟨ek, e⟩
    · rw [opn_app _ _ _ (by omega)]; exact T.pre k b h
    · rw [ek, opn_app _ _ _ (Nat.le_refl _)]
      intro z
      have := T.dep
      rw [z] at this
      simp at this
      omega
  · rw [List.length_append]
    show (opn _ (row.length + 1)).length = d - 1
    rw [opn_ret (at_new row _), opn_app _ _ _ (Nat.le_refl _), List.length_tail, T.dep]
  · rcases at_app h with ⟨hk, h⟩ | ⟨_, e⟩
    · exact T.noset k b h
    · cases e
  · rcases at_app h with ⟨hk, h⟩ | ⟨_, e⟩
    · exact T.lett k b h
    · cases e
  · rcases at_app h with ⟨hk, h⟩ | ⟨_, e⟩
    · exact T.call k b h
    · cases e
  · rcases at_app h with ⟨hk, h⟩ | ⟨_, e⟩
    · exact T.ret k b h
    · cases e; exact ha
theorem TxtOk.row {R : Rdr} {row : List Place} (T : TxtOk R.l R.c R.r row 0) : RowOk R row :=
  ⟨T.pre, List.length_eq_zero_iff.mp T.dep, T.noset, T.lett, T.call, T.ret⟩
/-! ### .. in the heap -/
structure TL (st sc : Addr) (ns : List Int) (H0 H : Hp) (l : Addr) (row : List Place) (xs : List V) : Prop where
  new : H0 l = none
  wk : Wk st sc ns H0 H
  at_ : H l = some (.lst xs)
  rep : PlsAt H row xs
section
variable {K : PySem.W.Frag} {st sc : Addr} {ns : List Int} {σ : St} {H0 H : Hp} {ta tb : TE} {u : TS} {D : Ends}
theorem q_pl {l i m : Nat} {row : List Place} {xs : List V} (kd : LK) (D0 : DS st sc ns H0) (T : TL st sc ns H0 H l row xs) (hi : σ[i]? = some (some (.ref l))) (ha : EvV ta σ H (.ref st)) (hb : EvV tb σ H (.int (m : Int))) (h1 : 1 ≤ m) (h2 : m ≤ 1000) (hz : row.length ≤ 1000)
    (kont : ∀ (z : Nat) xs' H1, z < m → TL st sc ns H0 H1 l (row ++ [(kd, z)]) xs' → u D σ H1) :
    tSeq (tDrop (tBM K "list" rAppend (tVar i) (tCons (tTup (tCons (tC (.str kd.str)) (tCons (tCall spDraw [] E0 (tCons ta (tCons tb tNil))) tNil))) tNil))) u D σ H := by
  refine ⟨_, hi, .inl ⟨rfl, _, sql T.at_⟩, ?_⟩
  have lst := D0.ne_new T.new
  refine draw_at T.wk.ds h1 h2 ha hb fun z H1 hz w1 => ⟨le2, fun t ht => ?_⟩
  have h3 := w1.at_ lst T.at_
  refine ⟨l, xs, .ref t, rfl, rfl, sw_new ht h3, szlt (by rw [← T.rep.length]; omega), kont z _ _ hz ⟨T.new, Wk.mut D0 ((T.wk.trans w1).same (same_new ht)) T.new, upd_same, ?_⟩⟩
  have tp1 := w1.tp T.wk.ds
  have tp2 := (tp_new (o := .tup [.str kd.str, .int (z : Int)]) ht).trans (tp_lst (ys := xs ++ [.ref t]) (sw_new ht h3))
  exact Paired.snoc (PlsAt.tp tp2 (PlsAt.tp tp1 T.rep)) ⟨t, rfl, tp_lst (sw_new ht h3) _ _ upd_same⟩
theorem l_pl {l i m : Nat} {row : List Place} {xs : List V} (kd : LK) (D0 : DS st sc ns H0) (T : TL st sc ns H0 H l row xs) (hi : σ[i]? = some (some (.ref l))) (ha : EvV ta σ H (.ref st)) (hb : EvV tb σ H (.int (m : Int))) (h1 : 1 ≤ m) (h2 : m ≤ 1000) (hz : row.length ≤ 1000)
    (kont : ∀ (z : Nat) xs' H1, z < m → TL st sc ns H0 H1 l (row ++ [(kd, z)]) xs' → D.nx σ H1) :
    tDrop (tBM K "list" rAppend (tVar i) (tCons (tTup (tCons (tC (.str kd.str)) (tCons (tCall spDraw [] E0 (tCons ta (tCons tb tNil))) tNil))) tNil)) D σ H := q_pl (u := tNext) kd D0 T hi ha hb h1 h2 hz kont
end
/-! ### _law_text -/
def spText : Sp := fun vs H Q _ => ∃ st sc ns la l c r, vs = [.ref st, .ref la, .int 7] ∧ DS st sc ns H ∧ H la = some (.tup [.int ((l : Nat) : Int), .int ((c : Nat) : Int), .int ((r : Nat) : Int)]) ∧ 1 ≤ l ∧ l ≤ 2 ∧ 1 ≤ c ∧ c ≤ 2 ∧ 1 ≤ r ∧ r ≤ 2 ∧
  ∀ a xs row H', H a = none → Wk st sc ns H H' → H' a = some (.lst xs) → PlsAt H' row xs → TxtOk l c r row 0 → row.length ≤ 14 → Q (.ref a) H'
section
variable {P : Program} {w : World} {K : PySem.W.Frag} {mg : Str → Option Value} {base : Heap}
abbrev nText : List Str := ["_law_state", "_law_labels", "_law_most", "_law_row", "_law_opened", "_law_k", "_law_kind"]
theorem scText : FnScope nText ["_law_state", "_law_labels", "_law_most"] (defScope sText) := ⟨rfl, rfl, rfl, by decide +kernel, rfl, by decide +kernel, by decide +kernel⟩
theorem ok_text (F : DefAt K mg "_law_text" sText) (T : Tx mg) (GD : Dn P w K mg base "_law_draw" 1 ["_law_state", "_law_limit"] spDraw) : Dn P w K mg base "_law_text" 2 ["_law_state", "_law_labels", "_law_most"] spText := by
  refine dn_mk F scText (fun _ _ _ _ _ _ us hl => match us, hl with | [_, _, _], _ => rfl) (fun vs H Q E h => ?_) (fun f cdv A outer s H vs Q E hr h => ?_)
  · obtain ⟨st, sc, ns, la, l, c, r, rfl, _⟩ := h
    rfl
  · obtain ⟨st, sc, ns, la, nl, nc, nr, rfl, D0, hla, hl1, hl2, hc1, hc2, hr1, hr2, k⟩ := h
    refine ⟨_, (pss_cons (ps_set (i := 3) scText.nd rfl (.inl rfl) (pe_lst pa_nil))
      (pss_cons (ps_set (i := 4) scText.nd rfl (.inl rfl) pe_int)
      (pss_cons (ps_for PassesOwn.never rfl (pi_range1 rfl T.range (pa_cons (pe_dn GD hr rfl (pa_cons (pv 0) (pa_cons (pe_op op_add (pv 2) pe_int) pa_nil))) pa_nil)) (pg_name (i := 5) scText.nd rfl (.inl rfl))
        (pss_cons (ps_set (i := 6) scText.nd rfl (.inl rfl) (pe_dn GD hr rfl (pa_cons (pv 0) (pa_cons pe_int pa_nil))))
        (pss_one (ps_if (PW.pt (pw_and (pt_cmpR op_eq (pv 6) pe_int (nomark _)) (pw_and1 (pt_cmpR op_gt (pv 4) pe_int (nomark _)))))
          (pss_cons (ps_expr (pe_bm PySem.F.plainAttrs_list PySem.F.slot_list_append PySem.F.type_list_append mt_append (pv 3) (pa_cons (pe_tup (pa_cons pe_str (pa_cons (pe_dn GD hr rfl (pa_cons (pv 0) (pa_cons (pe_ix (r := rIxT K) ix_tup (pv 1) pe_int (fun _ _ => rfl)) pa_nil))) pa_nil))) pa_nil)))
          (pss_one (ps_set (i := 4) scText.nd rfl (.inl rfl) (pe_op op_sub (pv 4) pe_int))))
          (pss_one (ps_if (pt_cmpR op_eq (pv 6) pe_int (nomark _))
            (pss_cons (ps_expr (pe_bm PySem.F.plainAttrs_list PySem.F.slot_list_append PySem.F.type_list_append mt_append (pv 3) (pa_cons (pe_tup (pa_cons pe_str (pa_cons (pe_dn GD hr rfl (pa_cons (pv 0) (pa_cons (pe_ix (r := rIxT K) ix_tup (pv 1) pe_int (fun _ _ => rfl)) pa_nil))) pa_nil))) pa_nil)))
            (pss_one (ps_set (i := 4) scText.nd rfl (.inl rfl) (pe_op op_add (pv 4) pe_int))))
            (pss_one (ps_expr (pe_bm PySem.F.plainAttrs_list PySem.F.slot_list_append PySem.F.type_list_append mt_append (pv 3) (pa_cons (pe_tup (pa_cons pe_str (pa_cons (pe_dn GD hr rfl (pa_cons (pv 0) (pa_cons (pe_ix (r := rIxT K) ix_tup (pv 1) pe_int (fun _ _ => rfl)) pa_nil))) pa_nil))) pa_nil))))))))))
      (pss_one (ps_ret (pe_op op_cat (pv 3) (pe_lc (own := [("_law_k", 5)]) (g := gName 5) (tt := tYes) rfl scText.nd (pi_range1 rfl T.range (pa_cons (pv 4) pa_nil)) (blkOk_by (N := nText) (sc := defScope sText) (by decide +kernel)) (fun _ _ _ _ _ => (pg_name (i := 5) scText.nd rfl (.inl rfl))) (fun _ _ _ _ _ => pts_nil) (fun _ _ _ _ _ => (pe_tup (pa_cons pe_str (pa_cons (pe_dn GD hr rfl (pa_cons (pv 0) (pa_cons (pe_ix (r := rIxT K) ix_tup (pv 1) pe_int (fun _ _ => rfl)) pa_nil))) pa_nil))))))))))), ?_⟩
    have last : la ≠ st := by
      obtain ⟨⟨_, _, _, e, _⟩, _, _⟩ := D0
      exact ne_of hla e (by intro z; cases z)
    refine ⟨Nat.zero_le _, fun l hl => ?_⟩
    have T0 : TL st sc ns H (upd H l (.lst [])) l [] [] := ⟨hl, Wk.of D0 (same_new hl), upd_same, .nil⟩
    generalize upd H l (.lst []) = H1 at T0
    refine q_setV (evv_c (v := .int ((0 : Nat) : Int))) ?_
    change tSeq _ _ _ [some (.ref st), some (.ref la), some (.int 7), some (.ref l), some (.int ((0 : Nat) : Int)), none, none] H1
    refine draw_at (L := 8) T0.wk.ds (by decide) (by decide) (evv_var (i := 0) rfl) (evv_i0 (i := 7) (j := 1) (g := fun i j => .int (i + j)) (evv_var (i := 2) rfl) evv_c) fun z0 H2 hz0 w2 => ⟨(z0 : Int), rfl, by omega, by omega, for_it (n := z0) (by rw [Int.toNat_natCast]; exact walk_range)
      (fun i σ H' => ∃ row xs d y5 y6, σ = [some (.ref st), some (.ref la), some (.int 7), some (.ref l), some (.int ((d : Nat) : Int)), y5, y6] ∧ TL st sc ns H H' l row xs ∧ TxtOk nl nc nr row d ∧ row.length = i ∧ d ≤ i)
      ⟨[], [], 0, none, none, rfl, ⟨hl, T0.wk.trans w2, w2.at_ (D0.ne_new hl) T0.at_, .nil⟩, TxtOk.nil _ _ _, rfl, Nat.le_refl _⟩ (fun _ _ _ _ _ => trivial) ?_ ?_⟩
    · rintro i x σ H3 H4 hi ⟨row, xs, d, y5, y6, rfl, TT, TX, hlen, hd⟩ ⟨rfl, rfl⟩
      refine draw_at (L := 4) TT.wk.ds (by decide) (by decide) (evv_var (i := 0) rfl) evv_c fun kd H5 hkd w5 => ?_
      have TT5 : TL st sc ns H H5 l row xs := ⟨TT.new, TT.wk.trans w5, w5.at_ (D0.ne_new hl) TT.at_, PlsAt.tp (w5.tp TT.wk.ds) TT.rep⟩
      have hla5 := TT5.wk.at_ last hla
      dsimp only
      change tIfS _ _ _ _ [some (.ref st), some (.ref la), some (.int 7), some (.ref l), some (.int ((d : Nat) : Int)), some (.int (0 + ((i : Nat) : Int))), some (.int (kd : Int))] H5
      refine ⟨_, rfl, rfl, _, rfl, ite2 (fun c1 => ⟨_, rfl, _, _, rfl, rfl, _, rfl, ite2 (fun c2 => ?ret) (fun c2 => ?e1)⟩) (fun c1 => iteF ?e2)⟩
      case ret =>
        have hd0 : 0 < d := by
          have := of_decide_eq_true c2
          omega
        refine q_pl .ret D0 TT5 rfl (evv_var (i := 0) rfl) (evv_ix hla5 (evv_var (i := 1) rfl) (evv_c (v := .int ((2 : Nat) : Int))) rfl) hr1 (by omega) (by omega) fun z xs' H6 hz T6 => ?_
        refine ⟨_, rfl, _, _, rfl, rfl, row ++ [(.ret, z)], xs', d - 1, some (.int (0 + ((i : Nat) : Int))), some (.int (kd : Int)), ?_, T6, TX.retP hd0 hz, by rw [List.length_append, hlen]; rfl, by omega⟩
        rw [show (((d - 1 : Nat) : Int)) = (d : Int) - 1 by omega]
        rfl
      all_goals
        refine ⟨_, rfl, rfl, _, rfl, ite2 (fun c3 => ?_) (fun c3 => ?_)⟩
        · refine q_pl .call D0 TT5 rfl (evv_var (i := 0) rfl) (evv_ix hla5 (evv_var (i := 1) rfl) (evv_c (v := .int ((1 : Nat) : Int))) rfl) hc1 (by omega) (by omega) fun z xs' H6 hz T6 => ?_
          refine ⟨_, rfl, _, _, rfl, rfl, row ++ [(.call, z)], xs', d + 1, some (.int (0 + ((i : Nat) : Int))), some (.int (kd : Int)), ?_, T6, TX.callP hz, by rw [List.length_append, hlen]; rfl, by omega⟩
          rw [show (((d + 1 : Nat) : Int)) = (d : Int) + 1 by omega]
          rfl
        · refine l_pl .letter D0 TT5 rfl (evv_var (i := 0) rfl) (evv_ix hla5 (evv_var (i := 1) rfl) (evv_c (v := .int ((0 : Nat) : Int))) rfl) hl1 (by omega) (by omega) fun z xs' H6 hz T6 => ?_
          exact ⟨row ++ [(.letter, z)], xs', d, _, _, rfl, T6, TX.letter hz, by rw [List.length_append, hlen]; rfl, by omega⟩
    · rintro σ H3 ⟨row, xs, d, y5, y6, rfl, TT, TX, hlen, hd⟩
      have lst := D0.ne_new hl
      refine ⟨_, rfl, _, rfl, (d : Int), rfl, by omega, by omega, fun l2 hl2 => lc_it (n := d) (by rw [Int.toNat_natCast]; exact walk_range) (fun i H' => i ≤ d ∧ ∃ rets ys, TL st sc ns H3 H' l2 rets ys ∧ rets.length = i ∧ TxtOk nl nc nr (row ++ rets) (d - i))
        ⟨Nat.zero_le _, [], [], ⟨hl2, Wk.of TT.wk.ds (same_new hl2), upd_same, .nil⟩, rfl, by rw [List.append_nil]; exact TX⟩ (fun _ _ _ _ => trivial) ?_ ?_⟩
      · rintro i x H4 H5 hi ⟨_, rets, ys, T4, hrl, TX4⟩ ⟨rfl, rfl⟩
        refine ⟨rfl, ?_⟩
        have hla4 := T4.wk.at_ last (TT.wk.at_ last hla)
        refine draw_at (L := nr) T4.wk.ds hr1 (by omega) (evv_var (i := 0) rfl) (evv_ix hla4 (evv_var (i := 1) rfl) (evv_c (v := .int ((2 : Nat) : Int))) rfl) fun z H6 hz w6 => ⟨le2, fun t ht => ?_⟩
        have l2st := TT.wk.ds.ne_new hl2
        have h6 := w6.at_ l2st T4.at_
        refine ⟨ys, sw_new ht h6, szlt (by rw [← T4.rep.length]; omega), hi, rets ++ [(.ret, z)], _, ⟨hl2, Wk.mut TT.wk.ds ((T4.wk.trans w6).same (same_new ht)) hl2, upd_same, ?_⟩, by rw [List.length_append, hrl]; rfl, ?_⟩
        · have tp1 := w6.tp T4.wk.ds
          have tp2 := (tp_new (o := .tup [.str (LK.str .ret), .int (z : Int)]) ht).trans (tp_lst (ys := ys ++ [.ref t]) (sw_new ht h6))
          exact Paired.snoc (PlsAt.tp tp2 (PlsAt.tp tp1 T4.rep)) ⟨t, rfl, tp_lst (sw_new ht h6) _ _ upd_same⟩
        · rw [← List.append_assoc, show d - (i + 1) = d - i - 1 by omega]
          exact TX4.retP (by omega) hz
      · rintro H4 ⟨_, rets, ys, T4, hrl, TX4⟩
        have h4l := T4.wk.at_ lst TT.at_
        have l1 := TT.rep.length
        have l2' := T4.rep.length
        refine ⟨l, l2, xs, ys, rfl, rfl, h4l, T4.at_, sz (by omega), fun p hp => k p (xs ++ ys) (row ++ rets) _ ((TT.wk.trans T4.wk).free D0 hp) ((TT.wk.trans T4.wk).same (same_new hp)) upd_same ?_ ?_ ?_⟩
        · exact PlsAt.tp (tp_new hp) (pair_app (PlsAt.tp (T4.wk.tp TT.wk.ds) TT.rep) T4.rep)
        · rw [Nat.sub_self] at TX4
          exact TX4
        · rw [List.length_append]
          omega
end
end Arc


namespace Arc
open PySem PySem.Spec PyProof.Rows L2
/-! ### what the judge reads -/
def SetsRd (H : Hp) (S : List (List Nat)) (ss : List V) : Prop := Paired (fun s v => ∃ p, v = .ref p ∧ H p = some (.lst (intsV s))) S ss
structure Ev0 (H : Hp) (L : List Line) (row : List Place) (S : List (List Nat)) (as_ ar al : Addr) : Prop where
  lines : ∃ rs, H as_ = some (.tup rs) ∧ LinesAt H L rs
  row : ∃ xs, H ar = some (.lst xs) ∧ PlsAt H row xs
  sets : ∃ ss, H al = some (.lst ss) ∧ SetsRd H S ss
theorem Ev0.same {H H' : Hp} {L : List Line} {row : List Place} {S : List (List Nat)} {as_ ar al : Addr} (h : Ev0 H L row S as_ ar al) (e : Same H H') : Ev0 H' L row S as_ ar al := by
  obtain ⟨⟨rs, h1, h2⟩, ⟨xs, h3, h4⟩, ⟨ss, h5, h6⟩⟩ := h
  exact ⟨⟨rs, e _ _ h1, h2.tp (Same.tp e)⟩, ⟨xs, e _ _ h3, h4.tp (Same.tp e)⟩, ⟨ss, e _ _ h5, Paired.mapP h6 fun _ _ ⟨p, a, b⟩ => ⟨p, a, e _ _ b⟩⟩⟩
theorem Ev0.line {H : Hp} {L : List Line} {row : List Place} {S : List (List Nat)} {as_ ar al : Addr} (h : Ev0 H L row S as_ ar al) {m : Nat} {l : Line} (hm : L[m]? = some l) : ∃ rs v, H as_ = some (.tup rs) ∧ rs[m]? = some v ∧ LineRep H l v := by
  obtain ⟨⟨rs, h1, h2⟩, _, _⟩ := h
  obtain ⟨v, h3, h4⟩ := pair_get' h2 hm
  exact ⟨rs, v, h1, h3, h4⟩
/-! ### words -/
theorem w_l_not : ∀ k : LK, decide (V.str k.str = V.str "not") = false := by intro k; cases k <;> decide +kernel
theorem w_l_and : ∀ k : LK, decide (V.str k.str = V.str "and") = false := by intro k; cases k <;> decide +kernel
theorem w_l_set : ∀ k : LK, k ≠ .set → decide (V.str k.str = V.str "set") = false := by intro k h; cases k <;> first | exact absurd rfl h | decide +kernel
theorem w_not : decide (V.str (UK.str .not) = V.str "not") = true := decide_eq_true rfl
theorem w_and_not : decide (V.str (BK.str .and) = V.str "not") = false := by decide +kernel
theorem w_and : decide (V.str (BK.str .and) = V.str "and") = true := decide_eq_true rfl
theorem w_set : decide (V.str (LK.str .set) = V.str "set") = true := decide_eq_true rfl
theorem str_inj : ∀ k k' : LK, k.str = k'.str → k = k' := by intro k k'; cases k <;> cases k' <;> first | (intro _; rfl) | (intro h; exact absurd h (by decide +kernel))
def plD (x : Place) : PyData := .tuple [.str x.1.str, .int (x.2 : Int)]
theorem lk_ok : ∀ k : LK, PyData.strOk k.str = true := by intro k; cases k <;> decide +kernel
theorem plD_shaped (x : Place) : SeqAt.shaped (plD x) = true := by
  have h0 : PyData.strOk x.1.str = true := lk_ok x.1
  have h1 : (plD x).canLay0 = true := by simp [plD, PyData.canLay0, PyData.canLayAll0, h0]
  have h2 : (plD x).depth = 1 := by simp [plD, PyData.depth, PyData.depthAll]
  show ((plD x).canLay0 && decide ((plD x).depth ≤ 64)) = true
  rw [h1, Bool.true_and]
  exact decide_eq_true (by omega)
theorem plD_eqv (x y : Place) : PyData.eqv (plD x) (plD y) = decide (x = y) := by
  obtain ⟨k, a⟩ := x
  obtain ⟨k', a'⟩ := y
  have e : PyData.eqv (plD (k, a)) (plD (k', a')) = ((k.str == k'.str) && (((a : Int) == (a' : Int)) && true)) := by simp only [plD, PyData.eqv, PyData.eqvAll]
  rw [e]
  by_cases h : ((k, a) : Place) = (k', a')
  · cases h
    simp
  · rw [decide_eq_false h]
    by_cases h1 : k = k'
    · by_cases h2 : a = a'
      · exact absurd (by rw [h1, h2]) h
      · have q : ((a : Int) == (a' : Int)) = false := beq_eq_false_iff_ne.mpr (by omega)
        rw [q, Bool.false_and, Bool.and_false]
    · have q : (k.str == k'.str) = false := beq_eq_false_iff_ne.mpr fun z => h1 (str_inj _ _ z)
      rw [q, Bool.false_and]
theorem plD_at {K : PySem.W.Frag} {H : Hp} {x : Place} {t : Addr} (h : H t = some (.tup [.str x.1.str, .int (x.2 : Int)])) : Dp K H (.ref t) (plD x) := .tup (sqt h) (.cons (.str _) (.cons (.int _) .nil))
theorem dn_none {P : Program} {w : World} {K : PySem.W.Frag} {mg : Str → Option Value} {base : Heap} {x : Str} {st : Stmt} {ps : List Str} {sp : Sp} (A : DefAt K mg x st)
    (b : ∀ (kV doc pm : Value) (an : Option Addr) (cdv ct : Value) (us : List Value), us.length = ps.length → bindArgs (PySem.W.fnOf x x (defArgs st) (defBody st) (defScope st) .none kV doc pm an cdv ct) ⟨us, []⟩ = pure (ps.zip us))
    (no : ∀ vs H Q E, ¬ sp vs H Q E) : Dn P w K mg base x 0 ps sp := by
  obtain ⟨f, fd, F, m⟩ := A
  exact ⟨f, fd, ⟨fun vs H Q E h => absurd h (no vs H Q E), fun A outer s H args us vs Q E _ _ _ _ h => absurd h (no vs H Q E)⟩, F.binds b, F.kp, m⟩
/-! ### _law_true -/
def spTrue (n : Nat) : Sp := fun vs H Q _ => ∃ as_ ar al m k L row S p, vs = [.ref as_, .int ((m : Nat) : Int), .ref ar, .ref al, .int ((k : Nat) : Int)] ∧ Ev0 H L row S as_ ar al ∧ At L m p ∧ PlOk p ∧ p.dep < n ∧ k < row.length ∧ Q (.bl (tru row S k p)) H
abbrev nTrueP : List Str := ["_law_sentence", "_law_number", "_law_row", "_law_sets", "_law_k"]
abbrev nTrue : List Str := ["_law_sentence", "_law_number", "_law_row", "_law_sets", "_law_k", "_law_line"]
theorem true_at {n : Nat} {σ : St} {H : Hp} {L : List Line} {row : List Place} {S : List (List Nat)} {as_ ar al : Addr} {m k : Nat} {p : Part} {tm tk : TE} {Q : VK} (C : Ev0 H L row S as_ ar al) (hA : At L m p) (hp : PlOk p) (hd : p.dep < n) (hk : k < row.length)
    (h0 : σ[0]? = some (some (.ref as_))) (hm : EvV tm σ H (.int (m : Int))) (h2 : σ[2]? = some (some (.ref ar))) (h3 : σ[3]? = some (some (.ref al))) (hkk : EvV tk σ H (.int (k : Int))) (q : Q (.bl (tru row S k p)) H) :
    tCall (spTrue n) [] E0 (tCons (tVar 0) (tCons tm (tCons (tVar 2) (tCons (tVar 3) (tCons tk tNil))))) σ H Q :=
  ⟨_, h0, hm H (Same.refl _) _ ⟨_, h2, _, h3, hkk H (Same.refl _) _ ⟨as_, ar, al, m, k, L, row, S, p, rfl, C, hA, hp, hd, hk, q⟩⟩⟩
section
variable {P : Program} {w : World} {K : PySem.W.Frag} {mg : Str → Option Value} {base : Heap}
theorem scTrue : FnScope nTrue nTrueP (defScope sTrue) := ⟨rfl, rfl, rfl, by decide +kernel, rfl, by decide +kernel, by decide +kernel⟩
theorem ok_true (F : DefAt K mg "_law_true" sTrue) (T : Tx mg) {n : Nat} (G : Dn P w K mg base "_law_true" n nTrueP (spTrue n)) : Dn P w K mg base "_law_true" (n + 1) nTrueP (spTrue (n + 1)) := by
  refine dn_mk F scTrue (fun _ _ _ _ _ _ us hl => match us, hl with | [_, _, _, _, _], _ => rfl) (fun vs H Q E h => ?_) (fun f cdv A outer s H vs Q E hr h => ?_)
  · obtain ⟨as_, ar, al, m, k, L, row, S, p, rfl, _⟩ := h
    rfl
  · obtain ⟨as_, ar, al, m, k, L, row, S, p, rfl, C, hA, hp, hd, hk, q⟩ := h
    refine ⟨_, (pss_cons (ps_set (i := 5) scTrue.nd rfl (.inl rfl) (pe_ix (r := rIxT K) ix_tup (pv 0) (pv 1) (fun _ _ => rfl)))
      (pss_cons (ps_if (pt_cmpR op_eq (pe_ix (r := rIxT K) ix_tup (pv 5) pe_int (fun _ _ => rfl)) pe_str (nomark _))
        (pss_one (ps_ret (pe_not (pe_dn G hr rfl (pa_cons (pv 0) (pa_cons (pe_ix (r := rIxT K) ix_tup (pv 5) pe_int (fun _ _ => rfl)) (pa_cons (pv 2) (pa_cons (pv 3) (pa_cons (pv 4) pa_nil)))))))))
        pss_nil)
      (pss_cons (ps_if (pt_cmpR op_eq (pe_ix (r := rIxT K) ix_tup (pv 5) pe_int (fun _ _ => rfl)) pe_str (nomark _))
        (pss_one (ps_ret (pe_and (pe_dn G hr rfl (pa_cons (pv 0) (pa_cons (pe_ix (r := rIxT K) ix_tup (pv 5) pe_int (fun _ _ => rfl)) (pa_cons (pv 2) (pa_cons (pv 3) (pa_cons (pv 4) pa_nil)))))) (pe_one (pe_dn G hr rfl (pa_cons (pv 0) (pa_cons (pe_ix (r := rIxT K) ix_tup (pv 5) pe_int (fun _ _ => rfl)) (pa_cons (pv 2) (pa_cons (pv 3) (pa_cons (pv 4) pa_nil))))))))))
        pss_nil)
      (pss_cons (ps_if (pt_cmpR op_eq (pe_ix (r := rIxT K) ix_tup (pv 5) pe_int (fun _ _ => rfl)) pe_str (nomark _))
        (pss_one (ps_ret (pe_and (pe_cmpR op_lt (pe_ix (r := rIxT K) ix_tup (pv 5) pe_int (fun _ _ => rfl)) (pe_callB (r := tLenS K) call_lenS (by rfl) T.len PySem.boot_len (pa_cons (pv 3) pa_nil)) (nomark _)) (pe_one (pe_cmpR (r := rIn K false) op_in_seq (pv 4) (pe_ix (r := rIxL K) ix_list (pv 3) (pe_ix (r := rIxT K) ix_tup (pv 5) pe_int (fun _ _ => rfl)) (fun _ _ => rfl)) (by rfl))))))
        pss_nil)
      (pss_one (ps_ret (pe_cmpR (r := rEqD K) (op_eqD hr.units) (pe_ix (r := rIxL K) ix_list (pv 2) (pv 4) (fun _ _ => rfl)) (pv 5) (nomark _)))))))), ?_⟩
    cases p with
    | leaf kd i =>
      obtain ⟨rs, v, hs, hv, t, rfl, ht⟩ := C.line hA
      refine q_setV (evv_ix hs (evv_var (i := 0) rfl) (evv_var (i := 1) rfl) hv) ?_
      change tSeq _ _ _ [some (.ref as_), some (.int (m : Int)), some (.ref ar), some (.ref al), some (.int (k : Int)), some (.ref t)] H
      have hd0 : ∀ (K : PySem.W.Frag), EvV (tOp (rIxT K) (tVar 5) (tC (.int 0))) [some (.ref as_), some (.int (m : Int)), some (.ref ar), some (.ref al), some (.int (k : Int)), some (.ref t)] H (.str kd.str) := fun K => evv_ix (j := 0) ht (evv_var rfl) evv_c rfl
      refine hd0 _ H (Same.refl _) _ ⟨rfl, false, congrArg V.bl (w_l_not kd), iteF ?_⟩
      refine hd0 _ H (Same.refl _) _ ⟨rfl, false, congrArg V.bl (w_l_and kd), iteF ?_⟩
      by_cases hkd : kd = .set
      · subst hkd
        refine hd0 _ H (Same.refl _) _ ⟨rfl, true, congrArg V.bl w_set, iteT ?_⟩
        obtain ⟨ss, h5, h6⟩ := C.sets
        have e1 : ∀ (K : PySem.W.Frag), EvV (tOp (rIxT K) (tVar 5) (tC (.int 1))) [some (.ref as_), some (.int (m : Int)), some (.ref ar), some (.ref al), some (.int (k : Int)), some (.ref t)] H (.int (i : Int)) := fun K => evv_ix (j := 1) ht (evv_var rfl) evv_c rfl
        have ql : Q (.bl (decide (i < S.length) && decide (k ∈ S.getD i []))) H := q
        refine e1 _ H (Same.refl _) _ ⟨_, rfl, al, ss, rfl, .inl (sql h5), _, _, rfl, rfl, decide (i < S.length), congrArg V.bl ?_, ?_⟩
        · rw [← h6.length]
          by_cases e : i < S.length
          · rw [decide_eq_true e, decide_eq_true (by omega)]
          · rw [decide_eq_false e, decide_eq_false (by omega)]
        · by_cases e : i < S.length
          · rw [decide_eq_true e] at ql ⊢
            refine iteT ?_
            obtain ⟨v, hv2, p, rfl, hp2⟩ := pair_get' h6 (show S[i]? = some S[i] from List.getElem?_eq_getElem e)
            refine ⟨_, rfl, evv_ixL h5 (evv_var (i := 3) rfl) (e1 _) hv2 H (Same.refl _) _ ⟨p, _, rfl, .inl (sql hp2), rfl, flat_ints _, ?_⟩⟩
            rw [if_neg Bool.false_ne_true, inV_ints]
            rw [Bool.true_and, List.getD_eq_getElem?_getD, List.getElem?_eq_getElem e] at ql
            exact ql
          · rw [decide_eq_false e] at ql ⊢
            exact iteF ql
      · refine hd0 _ H (Same.refl _) _ ⟨rfl, false, congrArg V.bl (w_l_set kd hkd), iteF ?_⟩
        obtain ⟨xs, h3, h4⟩ := C.row
        obtain ⟨v, hv2, t2, rfl, h2⟩ := pair_get' h4 (show row[k]? = some row[k] from List.getElem?_eq_getElem hk)
        refine evv_ixL h3 (evv_var (i := 2) rfl) (evv_var (i := 4) rfl) hv2 H (Same.refl _) _ ⟨_, rfl, plD row[k], plD (kd, i), plD_at h2, plD_at ht, plD_shaped _, plD_shaped _, ?_⟩
        rw [plD_eqv]
        have e : tru row S k (.leaf kd i) = decide (row[k] = (kd, i)) := by
          have e0 : tru row S k (.leaf kd i) = decide (row[k]? = some (kd, i)) := by cases kd <;> first | exact absurd rfl hkd | rfl
          rw [e0, List.getElem?_eq_getElem hk]
          by_cases e : row[k] = (kd, i)
          · rw [decide_eq_true e, decide_eq_true (congrArg some e)]
          · rw [decide_eq_false e, decide_eq_false (fun z => e (Option.some.inj z))]
        rw [e] at q
        exact q
    | un kd p' =>
      cases kd with
      | not =>
        obtain ⟨m', hm, hA'⟩ := hA
        obtain ⟨rs, v, hs, hv, t, rfl, ht⟩ := C.line hm
        refine q_setV (evv_ix hs (evv_var (i := 0) rfl) (evv_var (i := 1) rfl) hv) ?_
        change tSeq _ _ _ [some (.ref as_), some (.int (m : Int)), some (.ref ar), some (.ref al), some (.int (k : Int)), some (.ref t)] H
        refine evv_ix (j := 0) ht (evv_var (i := 5) rfl) evv_c rfl H (Same.refl _) _ ⟨rfl, true, congrArg V.bl w_not, iteT ?_⟩
        have hd' : p'.dep + 1 < n + 1 := hd
        exact true_at C hA' hp (by omega) hk rfl (evv_ix (j := 1) ht (evv_var rfl) evv_c rfl) rfl rfl (evv_var rfl) ⟨_, rfl, q⟩
      | all => exact hp.elim
      | first => exact hp.elim
      | last => exact hp.elim
    | bi kd p1 p2 =>
      cases kd with
      | and =>
        obtain ⟨m1, m2, hm, hA1, hA2⟩ := hA
        obtain ⟨rs, v, hs, hv, t, rfl, ht⟩ := C.line hm
        refine q_setV (evv_ix hs (evv_var (i := 0) rfl) (evv_var (i := 1) rfl) hv) ?_
        change tSeq _ _ _ [some (.ref as_), some (.int (m : Int)), some (.ref ar), some (.ref al), some (.int (k : Int)), some (.ref t)] H
        refine evv_ix (j := 0) ht (evv_var (i := 5) rfl) evv_c rfl H (Same.refl _) _ ⟨rfl, false, congrArg V.bl w_and_not, iteF ?_⟩
        refine evv_ix (j := 0) ht (evv_var (i := 5) rfl) evv_c rfl H (Same.refl _) _ ⟨rfl, true, congrArg V.bl w_and, iteT ?_⟩
        have hd' : max p1.dep p2.dep + 1 < n + 1 := hd
        have ql : Q (.bl (tru row S k p1 && tru row S k p2)) H := q
        refine true_at C hA1 hp.1 (by omega) hk rfl (evv_ix (j := 1) ht (evv_var rfl) evv_c rfl) rfl rfl (evv_var rfl) ⟨_, rfl, ?_⟩
        cases e : tru row S k p1 with
        | false =>
          rw [e] at ql
          exact iteF ql
        | true =>
          rw [e] at ql
          refine iteT ?_
          exact true_at C hA2 hp.2 (by omega) hk rfl (evv_ix (j := 2) ht (evv_var rfl) evv_c rfl) rfl rfl (evv_var rfl) ql
      | next => exact hp.elim
      | arch => exact hp.elim
      | both => exact hp.elim
theorem true_all (F : DefAt K mg "_law_true" sTrue) (T : Tx mg) : ∀ n : Nat, Dn P w K mg base "_law_true" n nTrueP (spTrue n)
  | 0 => dn_none F (fun _ _ _ _ _ _ us hl => match us, hl with | [_, _, _, _, _], _ => rfl) fun vs H Q E h => by
    obtain ⟨as_, ar, al, m, k, L, row, S, p, _, _, _, _, h, _⟩ := h
    exact absurd h (Nat.not_lt_zero _)
  | n + 1 => ok_true F T (true_all F T n)
end
end Arc


namespace Arc
open PySem PySem.Spec PyProof.Rows L2
/-! ### _law_pairs_of -/
def PairRep (H : Hp) (x : Nat × Nat) (v : V) : Prop := ∃ t, v = .ref t ∧ H t = some (.tup [.int (x.1 : Int), .int (x.2 : Int)])
def PairsAt (H : Hp) (ps : List (Nat × Nat)) (ys : List V) : Prop := Paired (PairRep H) ps ys
theorem PairsAt.tp {H H' : Hp} (e : Tp H H') {ps : List (Nat × Nat)} {ys : List V} (h : PairsAt H ps ys) : PairsAt H' ps ys := Paired.mapP h fun _ _ ⟨t, h1, h2⟩ => ⟨t, h1, e _ _ h2⟩
def spPairs : Sp := fun vs H Q _ => ∃ ar xs row R, vs = [.ref ar] ∧ H ar = some (.lst xs) ∧ PlsAt H row xs ∧ RowOk R row ∧ row.length ≤ 100 ∧ ∀ l ys H', Same H H' → H' l = some (.lst ys) → PairsAt H' (prs row row.length) ys → Q (.ref l) H'
theorem prs_len (row : List Place) : ∀ k, (prs row k).length ≤ k
  | 0 => Nat.le_refl 0
  | k + 1 => by
    have := prs_len row k
    show (match row[k]? with
      | some (.ret, _) => prs row k ++ [((opn row k).headD 0, k)]
      | _ => prs row k).length ≤ k + 1
    split
    · rw [List.length_append]
      show (prs row k).length + 1 ≤ k + 1
      omega
    · omega
structure PInv (row : List Place) (H0 H : Hp) (lo lf : Addr) (ys : List V) (k : Nat) : Prop where
  same : Same H0 H
  o0 : H0 lo = none
  f0 : H0 lf = none
  ne : lo ≠ lf
  ho : H lo = some (.lst (intsV (opn row k).reverse))
  hf : H lf = some (.lst ys)
  ps : PairsAt H (prs row k) ys
section
variable {P : Program} {w : World} {K : PySem.W.Frag} {mg : Str → Option Value} {base : Heap}
abbrev nPairs : List Str := ["_law_row", "_law_opened", "_law_found", "_law_k"]
theorem scPairs : FnScope nPairs ["_law_row"] (defScope sPairs) := ⟨rfl, rfl, rfl, by decide +kernel, rfl, by decide +kernel, by decide +kernel⟩
theorem ok_pairs (F : DefAt K mg "_law_pairs_of" sPairs) (T : Tx mg) : Dn P w K mg base "_law_pairs_of" 1 ["_law_row"] spPairs := by
  refine dn_mk F scPairs (fun _ _ _ _ _ _ us hl => match us, hl with | [_], _ => rfl) (fun vs H Q E h => ?_) (fun f cdv A outer s H vs Q E hr h => ?_)
  · obtain ⟨ar, xs, row, R, rfl, _⟩ := h
    rfl
  · obtain ⟨ar, xs, row, R, rfl, hA, hrow, W, hlen, k⟩ := h
    refine ⟨_, (pss_cons (ps_set (i := 1) scPairs.nd rfl (.inl rfl) (pe_lst pa_nil))
      (pss_cons (ps_set (i := 2) scPairs.nd rfl (.inl rfl) (pe_lst pa_nil))
      (pss_cons (ps_for PassesOwn.never rfl (pi_range1 rfl T.range (pa_cons (pe_callB (r := tLenS K) call_lenS (by rfl) T.len PySem.boot_len (pa_cons (pv 0) pa_nil)) pa_nil)) (pg_name (i := 3) scPairs.nd rfl (.inl rfl))
        (pss_cons (ps_if (pt_cmpR op_eq (pe_ix (r := rIxT K) ix_tup (pe_ix (r := rIxL K) ix_list (pv 0) (pv 3) (fun _ _ => rfl)) pe_int (fun _ _ => rfl)) pe_str (nomark _))
          (pss_one (ps_expr (pe_bm PySem.F.plainAttrs_list PySem.F.slot_list_append PySem.F.type_list_append mt_append (pv 1) (pa_cons (pv 3) pa_nil))))
          pss_nil)
        (pss_one (ps_if (pt_cmpR op_eq (pe_ix (r := rIxT K) ix_tup (pe_ix (r := rIxL K) ix_list (pv 0) (pv 3) (fun _ _ => rfl)) pe_int (fun _ _ => rfl)) pe_str (nomark _))
          (pss_one (ps_expr (pe_bm PySem.F.plainAttrs_list PySem.F.slot_list_append PySem.F.type_list_append mt_append (pv 2) (pa_cons (pe_tup (pa_cons (pe_bm0 PySem.F.plainAttrs_list PySem.F.slot_list_pop PySem.F.type_list_pop mt_pop (pv 1)) (pa_cons (pv 3) pa_nil))) pa_nil))))
          pss_nil))))
      (pss_one (ps_ret (pv 2)))))), ?_⟩
    refine ⟨Nat.zero_le _, fun lo hlo => ⟨Nat.zero_le _, fun lf hlf => ?_⟩⟩
    have I0 : PInv row H (upd (upd H lo (.lst [])) lf (.lst [])) lo lf [] 0 :=
      ⟨(same_new hlo).trans (same_new hlf), hlo, (same_new hlo).free hlf, ne_of_none (upd_same (o := .lst [])) hlf, sw_new hlf upd_same, upd_same, .nil⟩
    generalize upd (upd H lo (.lst [])) lf (.lst []) = H1 at I0
    change tSeq _ _ _ [some (.ref ar), some (.ref lo), some (.ref lf), none] H1
    refine q_rng (n := row.length) (evv_is (evv_lenL (I0.same _ _ hA) (evv_var (i := 0) rfl)) (by rw [hrow.length])) (by omega)
      (fun i σ H' => i ≤ row.length ∧ ∃ ys y3, σ = [some (.ref ar), some (.ref lo), some (.ref lf), y3] ∧ PInv row H H' lo lf ys i) ⟨Nat.zero_le _, [], none, rfl, I0⟩ ?_ ?_
    · rintro i σ H2 hi ⟨_, ys, y3, rfl, I⟩
      change tSeq _ _ _ [some (.ref ar), some (.ref lo), some (.ref lf), some (.int (i : Int))] H2
      obtain ⟨v, hv, t, rfl, ht⟩ := pair_get' hrow (show row[i]? = some row[i] from List.getElem?_eq_getElem hi)
      have hol := opn_len row i
      have hpl := prs_len row i
      have kind : ∀ (K : PySem.W.Frag) H', Same H H' → EvV (tOp (rIxT K) (tOp (rIxL K) (tVar 0) (tVar 3)) (tC (.int 0))) [some (.ref ar), some (.ref lo), some (.ref lf), some (.int (i : Int))] H' (.str row[i].1.str) := fun K H' e =>
        evv_ix (j := 0) (e _ _ ht) (evv_ixL (e _ _ hA) (evv_var rfl) (evv_var rfl) hv) evv_c rfl
      have hrowi : row[i]? = some row[i] := List.getElem?_eq_getElem hi
      generalize row[i] = pl at hrowi kind ht
      rcases kinds W hi with ⟨lb, e, hlb⟩ | ⟨lb, e, hlb⟩ | ⟨lb, e, hlb, ne⟩
      · rw [hrowi] at e
        cases e
        refine kind _ H2 I.same H2 (Same.refl _) _ ⟨rfl, false, congrArg V.bl k_lc, iteF ?_⟩
        refine kind _ H2 I.same H2 (Same.refl _) _ ⟨rfl, false, congrArg V.bl k_lr, iteF ?_⟩
        refine ⟨hi, ys, _, rfl, I.same, I.o0, I.f0, I.ne, ?_, I.hf, ?_⟩
        · rw [opn_letter hrowi]; exact I.ho
        · rw [prs_letter hrowi]; exact I.ps
      · rw [hrowi] at e
        cases e
        refine kind _ H2 I.same H2 (Same.refl _) _ ⟨rfl, true, congrArg V.bl k_cc, iteT ?_⟩
        refine ⟨_, rfl, .inl ⟨rfl, _, sql I.ho⟩, _, rfl, lo, _, _, rfl, rfl, I.ho, szlt (by rw [intsV_len, List.length_reverse]; omega), ?_⟩
        have s3 : Same H (upd H2 lo (.lst (intsV (opn row i).reverse ++ [.int (i : Int)]))) := same_mut I.same I.o0
        refine kind _ _ s3 _ (Same.refl _) _ ⟨rfl, false, congrArg V.bl k_cr, iteF ?_⟩
        refine ⟨hi, ys, _, rfl, s3, I.o0, I.f0, I.ne, ?_, by rw [upd_ne I.ne.symm]; exact I.hf, ?_⟩
        · rw [upd_same, opn_call hrowi, List.reverse_cons]
          unfold intsV
          rw [List.map_append]
          rfl
        · rw [prs_call hrowi]; exact PairsAt.tp (tp_lst I.ho) I.ps
      · rw [hrowi] at e
        cases e
        refine kind _ H2 I.same H2 (Same.refl _) _ ⟨rfl, false, congrArg V.bl k_rc, iteF ?_⟩
        refine kind _ H2 I.same H2 (Same.refl _) _ ⟨rfl, true, congrArg V.bl k_rr, iteT ?_⟩
        cases ho : opn row i with
        | nil => exact absurd ho ne
        | cons j stk =>
          have h1 := I.ho
          rw [ho, List.reverse_cons] at h1
          have e1 : intsV (stk.reverse ++ [j]) = intsV stk.reverse ++ [.int (j : Int)] := by unfold intsV; rw [List.map_append]; rfl
          rw [e1] at h1
          have hf1 : upd H2 lo (.lst (intsV stk.reverse)) lf = some (.lst ys) := by rw [upd_ne I.ne.symm]; exact I.hf
          refine ⟨_, rfl, .inl ⟨rfl, _, sql I.hf⟩, _, rfl, .inl ⟨rfl, _, sql h1⟩, lo, _, .int (j : Int), rfl, rfl, h1, (by rw [List.length_append, List.length_singleton, Nat.add_sub_cancel, List.getElem?_append_right (Nat.le_refl _), Nat.sub_self]; rfl), ?_⟩
          rw [List.dropLast_concat]
          refine ⟨_, rfl, le2, fun t5 h5 => ⟨lf, ys, .ref t5, rfl, rfl, sw_new h5 hf1, szlt (by rw [← I.ps.length]; omega), ?_⟩⟩
          have tp1 : Tp H2 (upd H2 lo (.lst (intsV stk.reverse))) := tp_lst h1
          have tp2 : Tp H2 (upd (upd (upd H2 lo (.lst (intsV stk.reverse))) t5 (.tup [.int (j : Int), .int (i : Int)])) lf (.lst (ys ++ [.ref t5]))) := tp1.trans ((tp_new h5).trans (tp_lst (sw_new h5 hf1)))
          refine ⟨hi, ys ++ [.ref t5], _, rfl, same_mut ((same_mut I.same I.o0).trans (same_new h5)) I.f0, I.o0, I.f0, I.ne, ?_, upd_same, ?_⟩
          · rw [upd_ne I.ne, opn_ret hrowi, ho]
            exact sw_new h5 upd_same
          · rw [prs_ret hrowi, ho]
            exact Paired.snoc (PairsAt.tp tp2 I.ps) ⟨t5, rfl, tp_lst (sw_new h5 hf1) _ _ upd_same⟩
    · rintro σ H2 ⟨_, ys, y3, rfl, I⟩
      exact ⟨_, rfl, k lf ys H2 I.same I.hf I.ps⟩
end
end Arc


namespace Arc
open PySem PySem.Spec PyProof.Rows L2
theorem nx_go {D : Ends} {σ : St} {H : Hp} (h : D.nx σ H) : tNext D σ H := h
theorem rg_ints (n : Nat) : rgV 0 (n : Int) = intsV (List.range n) := by
  unfold rgV intsV
  rw [Int.sub_zero, Int.toNat_natCast]
  refine List.map_congr_left fun i _ => ?_
  rw [Int.zero_add]
theorem cut_1 {n : Nat} (h : 0 < n) : cutV (intsV (List.range n)) none (some 1) = intsV ((List.range n).take 1) := by
  have e := cut_to (α := Unit) (intsV (List.range n)) (k := 1) (by rw [intsV_len, List.length_range]; exact h)
  have e2 : cutV (intsV (List.range n)) none (some ((1 : Nat) : Int)) = cutV (intsV (List.range n)) none (some 1) := rfl
  rw [← e2, e]
  unfold intsV
  rw [List.map_take]
theorem six_m1 {n d : Nat} (h : 0 < n) : HT.sIx n d (some (-1)) = n - 1 := by
  show (if (-1 : Int) < 0 then ((-1 : Int) + (n : Int)).toNat else min (-1 : Int).toNat n) = n - 1
  rw [if_pos (by decide)]
  omega
theorem cut_m1 {n : Nat} (h : 0 < n) : cutV (intsV (List.range n)) (some (-1)) none = intsV ((List.range n).drop (n - 1)) := by
  have hl : (intsV (List.range n)).length = n := by rw [intsV_len, List.length_range]
  unfold cutV
  rw [hl, six_m1 h, HT.sIx_none, List.take_of_length_le (by rw [List.length_drop, hl]; exact Nat.le_refl _)]
  unfold intsV
  rw [List.map_drop]
theorem cut_t1 {n : Nat} (h : 0 < n) : cutV (intsV (List.range n)) none (some (-1)) = intsV (List.range (n - 1)) := by
  have hl : (intsV (List.range n)).length = n := by rw [intsV_len, List.length_range]
  unfold cutV
  rw [hl, six_m1 h, HT.sIx_none, List.drop_zero, Nat.sub_zero]
  unfold intsV
  rw [← List.map_take, List.take_range, Nat.min_eq_left (Nat.sub_le n 1)]
section
variable {K : PySem.W.Frag} {σ : St} {H : Hp} {tl te : TE}
/-- all([e for k in a list of numbers]) -/
theorem all_lc {zs : List Nat} {g : Nat → Bool} {j : Nat} (hz : zs.length ≤ 1000) (ht : ∀ Q : VK, (∀ a H1, Same H H1 → H1 a = some (.lst (intsV zs)) → Q (.ref a) H1) → tl σ H Q) (hw : ∀ x, wipe ((wipe σ [j]).set j (some x)) [j] = wipe σ [j])
    (he : ∀ (z : Nat) H1, z ∈ zs → Same H H1 → ∀ Q : VK, Q (.bl (g z)) H1 → te ((wipe σ [j]).set j (some (.int (z : Int)))) H1 Q) {Q : VK} (q : ∀ H1, Same H H1 → Q (.bl (zs.all g)) H1) :
    tCB (rAll K) (tCons (tLc (iList K tl) (gName j) tYes te [j]) tNil) σ H Q := by
  show tLc (iList K tl) (gName j) tYes te [j] σ H (fun v H1 => rAll K [v] H1 Q)
  refine ht _ fun a H1 s1 ha => ⟨a, rfl, ⟨_, sql ha⟩, fun D hD => lc_it (walk_list (xs := intsV zs)) (fun i H' => Same H1 H' ∧ H' D = some (.lst ((zs.take i).map fun z => V.bl (g z)))) ⟨same_new hD, upd_same⟩ (fun i H' _ hP => sql (hP.1 _ _ ha)) (fun i x H2 H3 hi hP hy => ?_) (fun H' hP => ?_)⟩
  · obtain ⟨rfl, hx⟩ := hy
    obtain ⟨s2, h2⟩ := hP
    unfold intsV at hx
    rw [List.getElem?_map] at hx
    obtain ⟨z, hz', rfl⟩ := Option.map_eq_some_iff.mp hx
    refine ⟨hw _, he z H3 (List.mem_of_getElem? hz') (s1.trans s2) _ ⟨_, h2, szlt (by rw [List.length_map, List.length_take]; omega), same_mut s2 hD, ?_⟩⟩
    rw [upd_same, List.take_add_one, hz', List.map_append]
    rfl
  · obtain ⟨s2, h2⟩ := hP
    rw [intsV_len, List.take_length] at h2
    refine ⟨D, zs.map g, rfl, sql (by rw [h2, List.map_map]; rfl), ?_⟩
    have e : (zs.map g).all id = zs.all g := by rw [List.all_map]; rfl
    rw [e]
    exact q H' (s1.trans s2)
/-- [(k, k + 1) for k in a list of numbers] -/
theorem pairs_lc {zs : List Nat} {j : Nat} (hz : zs.length ≤ 1000) (ht : ∀ Q : VK, (∀ a H1, Same H H1 → H1 a = some (.lst (intsV zs)) → Q (.ref a) H1) → tl σ H Q) (hw : ∀ x, wipe ((wipe σ [j]).set j (some x)) [j] = wipe σ [j])
    (hg : ∀ x, ((wipe σ [j]).set j (some x))[j]? = some (some x)) {Q : VK} (q : ∀ l ys H1, Same H H1 → H1 l = some (.lst ys) → PairsAt H1 (zs.map fun k => (k, k + 1)) ys → Q (.ref l) H1) :
    tLc (iList K tl) (gName j) tYes (tTup (tCons (tVar j) (tCons (tOp (rI0 fun i j => .int (i + j)) (tVar j) (tC (.int 1))) tNil))) [j] σ H Q := by
  refine ht _ fun a H1 s1 ha => ⟨a, rfl, ⟨_, sql ha⟩, fun D hD => lc_it (walk_list (xs := intsV zs)) (fun i H' => Same H1 H' ∧ ∃ ys, H' D = some (.lst ys) ∧ PairsAt H' ((zs.take i).map fun k => (k, k + 1)) ys) ⟨same_new hD, [], upd_same, .nil⟩ (fun i H' _ hP => sql (hP.1 _ _ ha)) (fun i x H2 H3 hi hP hy => ?_) (fun H' hP => ?_)⟩
  · obtain ⟨rfl, hx⟩ := hy
    obtain ⟨s2, ys, h2, h3⟩ := hP
    unfold intsV at hx
    rw [List.getElem?_map] at hx
    obtain ⟨z, hz', rfl⟩ := Option.map_eq_some_iff.mp hx
    refine ⟨hw _, _, hg _, _, hg _, _, _, rfl, rfl, le2, fun t ht => ⟨ys, same_new ht _ _ h2, szlt ?_, same_mut (s2.trans (same_new ht)) hD, _, upd_same, ?_⟩⟩
    · have := h3.length
      rw [List.length_map, List.length_take] at this
      omega
    · rw [List.take_add_one, hz', List.map_append]
      have tp := (tp_new (o := .tup [.int (z : Int), .int ((z : Int) + 1)]) ht).trans (tp_lst (ys := ys ++ [.ref t]) (same_new ht _ _ h2))
      refine Paired.snoc (PairsAt.tp tp h3) ⟨t, rfl, ?_⟩
      rw [Int.natCast_add]
      exact tp_lst (same_new ht _ _ h2) _ _ upd_same
  · obtain ⟨s2, ys, h2, h3⟩ := hP
    rw [intsV_len, List.take_length] at h3
    exact q D ys H' (s1.trans s2) h2 h3
end
/-- the loop over pairs of places -/
theorem for_pairs {K : PySem.W.Frag} {n : Nat} {H : Hp} {L : List Line} {row : List Place} {S : List (List Nat)} {as_ ar al t lp D0 : Addr} {m m1 m2 : Nat} {p1 p2 : Part} {sn : Str} {prsL : List (Nat × Nat)} {ys : List V} {D : Ends} (C : Ev0 H L row S as_ ar al) (hA1 : At L m1 p1) (hA2 : At L m2 p2) (hp1 : PlOk p1) (hp2 : PlOk p2) (hd1 : p1.dep < n) (hd2 : p2.dep < n)
    (ht : H t = some (.tup [.str sn, .int (m1 : Int), .int (m2 : Int)])) (hD : H D0 = some (.lst ys)) (hps : PairsAt H prsL ys) (hb : ∀ x ∈ prsL, x.1 < row.length ∧ x.2 < row.length) (q : D.rt (.bl (prsL.all fun x => !tru row S x.1 p1 || tru row S x.2 p2)) H) :
    tSeq (tFor (iList K (tVar 6)) (gName 7) (tIfS (tB (tCall (spTrue n) [] E0 (tCons (tVar 0) (tCons (tOp (rIxT K) (tVar 4) (tC (.int 1))) (tCons (tVar 2) (tCons (tVar 3) (tCons (tOp (rIxT K) (tVar 7) (tC (.int 0))) tNil)))))))
      (tIfS (tNot (tB (tCall (spTrue n) [] E0 (tCons (tVar 0) (tCons (tOp (rIxT K) (tVar 4) (tC (.int 2))) (tCons (tVar 2) (tCons (tVar 3) (tCons (tOp (rIxT K) (tVar 7) (tC (.int 1))) tNil)))))))) (tRet (tC (.bl false))) tNext) tNext)) (tRet (tC (.bl true))) D
      [some (.ref as_), some (.int (m : Int)), some (.ref ar), some (.ref al), some (.ref t), some (.ref lp), some (.ref D0), none, none] H := by
  refine ⟨_, rfl, D0, rfl, ⟨_, sql hD⟩, for_it (walk_list (xs := ys)) (fun i σ H' => ∃ z, σ = [some (.ref as_), some (.int (m : Int)), some (.ref ar), some (.ref al), some (.ref t), some (.ref lp), some (.ref D0), z, none] ∧ H' = H ∧ ((prsL.take i).all fun x => !tru row S x.1 p1 || tru row S x.2 p2) = true)
    ⟨none, rfl, rfl, rfl⟩ (fun i σ H' _ ⟨_, _, e, _⟩ => by rw [e]; exact sql hD) ?_ ?_⟩
  · rintro i x σ H2 H3 hi ⟨z, rfl, rfl, hall⟩ ⟨rfl, hx⟩
    obtain ⟨⟨a, b⟩, hab, tp, rfl, htp⟩ := pair_get hps hx
    obtain ⟨hb1, hb2⟩ := hb _ (List.mem_of_getElem? hab)
    change tIfS _ _ _ _ [some (.ref as_), some (.int (m : Int)), some (.ref ar), some (.ref al), some (.ref t), some (.ref lp), some (.ref D0), some (.ref tp), none] H3
    have step : (!tru row S a p1 || tru row S b p2) = true → ((prsL.take (i + 1)).all fun x => !tru row S x.1 p1 || tru row S x.2 p2) = true := fun h => by
      rw [List.take_add_one, hab, List.all_append, hall]
      show (true && ((!tru row S a p1 || tru row S b p2) && true)) = true
      rw [h]
      rfl
    refine true_at C hA1 hp1 hd1 hb1 rfl (evv_ix (j := 1) ht (evv_var rfl) evv_c rfl) rfl rfl (evv_ix (j := 0) htp (evv_var rfl) evv_c rfl) ⟨_, rfl, ?_⟩
    cases e : tru row S a p1 with
    | false => exact iteF ⟨_, rfl, rfl, step (by rw [e]; rfl)⟩
    | true =>
      refine iteT ?_
      refine true_at C hA2 hp2 hd2 hb2 rfl (evv_ix (j := 2) ht (evv_var rfl) evv_c rfl) rfl rfl (evv_ix (j := 1) htp (evv_var rfl) evv_c rfl) ⟨_, rfl, ?_⟩
      cases e2 : tru row S b p2 with
      | true => exact iteF ⟨_, rfl, rfl, step (by rw [e2, Bool.or_true])⟩
      | false =>
        refine iteT ?_
        have ef : (prsL.all fun x => !tru row S x.1 p1 || tru row S x.2 p2) = false := by
          refine Bool.eq_false_iff.mpr fun h => ?_
          have := List.all_eq_true.mp h _ (List.mem_of_getElem? hab)
          rw [e, e2] at this
          cases this
        rw [ef] at q
        exact q
  · rintro σ H2 ⟨z, rfl, rfl, hall⟩
    rw [← hps.length, List.take_length] at hall
    rw [hall] at q
    exact q
/-! ### _law_so -/
def spSo (n : Nat) : Sp := fun vs H Q _ => ∃ as_ ar al m L row S p R, vs = [.ref as_, .int ((m : Nat) : Int), .ref ar, .ref al] ∧ Ev0 H L row S as_ ar al ∧ At L m p ∧ SoOk p ∧ p.dep < n ∧ RowOk R row ∧ 0 < row.length ∧ row.length ≤ 100 ∧ ∀ H', Same H H' → Q (.bl (so row S p)) H'
theorem so_at {n : Nat} {σ : St} {H : Hp} {L : List Line} {row : List Place} {S : List (List Nat)} {as_ ar al : Addr} {m : Nat} {p : Part} {R : Rdr} {tm : TE} {Q : VK} (C : Ev0 H L row S as_ ar al) (hA : At L m p) (hp : SoOk p) (hd : p.dep < n) (W : RowOk R row) (h1 : 0 < row.length) (h2' : row.length ≤ 100)
    (h0 : σ[0]? = some (some (.ref as_))) (hm : EvV tm σ H (.int (m : Int))) (h2 : σ[2]? = some (some (.ref ar))) (h3 : σ[3]? = some (some (.ref al))) (q : ∀ H', Same H H' → Q (.bl (so row S p)) H') :
    tCall (spSo n) [] E0 (tCons (tVar 0) (tCons tm (tCons (tVar 2) (tCons (tVar 3) tNil)))) σ H Q :=
  ⟨_, h0, hm H (Same.refl _) _ ⟨_, h2, _, h3, as_, ar, al, m, L, row, S, p, R, rfl, C, hA, hp, hd, W, h1, h2', q⟩⟩
section
variable {P : Program} {w : World} {K : PySem.W.Frag} {mg : Str → Option Value} {base : Heap}
abbrev nSoP : List Str := ["_law_sentence", "_law_number", "_law_row", "_law_sets"]
abbrev nSo : List Str := ["_law_sentence", "_law_number", "_law_row", "_law_sets", "_law_line", "_law_places", "_law_pairs", "_law_pair", "_law_k"]
theorem scSo : FnScope nSo nSoP (defScope sSo) := ⟨rfl, rfl, rfl, by decide +kernel, rfl, by decide +kernel, by decide +kernel⟩
theorem ok_so (F : DefAt K mg "_law_so" sSo) (T : Tx mg) {n : Nat} (G : Dn P w K mg base "_law_so" (n + 2) nSoP (spSo n)) (GT : Dn P w K mg base "_law_true" n nTrueP (spTrue n)) (GP : Dn P w K mg base "_law_pairs_of" 1 ["_law_row"] spPairs) :
    Dn P w K mg base "_law_so" (n + 3) nSoP (spSo (n + 1)) := by
  refine dn_mk F scSo (fun _ _ _ _ _ _ us hl => match us, hl with | [_, _, _, _], _ => rfl) (fun vs H Q E h => ?_) (fun f cdv A outer s H vs Q E hr h => ?_)
  · obtain ⟨as_, ar, al, m, L, row, S, p, R, rfl, _⟩ := h
    rfl
  · obtain ⟨as_, ar, al, m, L, row, S, p, R, rfl, C, hA, hp, hd, W, hl0, hl1, q⟩ := h
    refine ⟨_, (pss_cons (ps_set (i := 4) scSo.nd rfl (.inr rfl) (pe_ix (r := rIxT K) ix_tup (pv 0) (pv 1) (fun _ _ => rfl)))
      (pss_cons (ps_set (i := 5) scSo.nd rfl (.inl rfl) (pe_listRg rfl rfl T.list (prg_1 rfl T.range (pe_callB (r := tLenS K) call_lenS (by rfl) T.len PySem.boot_len (pa_cons (pv 2) pa_nil)))))
      (pss_cons (ps_if (pt_cmpR op_eq (pe_ix (r := rIxT K) ix_tup (pv 4) pe_int (fun _ _ => rfl)) pe_str (nomark _))
        pss_never
        pss_nil)
      (pss_cons (ps_if (pt_cmpR op_eq (pe_ix (r := rIxT K) ix_tup (pv 4) pe_int (fun _ _ => rfl)) pe_str (nomark _))
        pss_never
        pss_nil)
      (pss_cons (ps_if (pt_cmpR op_eq (pe_ix (r := rIxT K) ix_tup (pv 4) pe_int (fun _ _ => rfl)) pe_str (nomark _))
        (pss_one (ps_ret (pe_and (pe_dn G hr rfl (pa_cons (pv 0) (pa_cons (pe_ix (r := rIxT K) ix_tup (pv 4) pe_int (fun _ _ => rfl)) (pa_cons (pv 2) (pa_cons (pv 3) pa_nil))))) (pe_one (pe_dn G hr rfl (pa_cons (pv 0) (pa_cons (pe_ix (r := rIxT K) ix_tup (pv 4) pe_int (fun _ _ => rfl)) (pa_cons (pv 2) (pa_cons (pv 3) pa_nil)))))))))
        pss_nil)
      (pss_cons (ps_if (pt_cmpR op_eq (pe_ix (r := rIxT K) ix_tup (pv 4) pe_int (fun _ _ => rfl)) pe_str (nomark _))
        pss_never
        pss_nil)
      (pss_cons (ps_if (pt_cmpR op_eq (pe_ix (r := rIxT K) ix_tup (pv 4) pe_int (fun _ _ => rfl)) pe_str (nomark _))
        (pss_one (ps_ret (pe_callB (r := rAll K) (cr_all rfl) (by rfl) T.all (by decide +kernel) (pa_cons (pe_lc (own := [("_law_k", 8)]) (g := gName 8) (tt := tYes) rfl scSo.nd (pi_list (pv 5)) (blkOk_by (N := nSo) (sc := defScope sSo) (by decide +kernel)) (fun _ _ _ _ _ => (pg_name (i := 8) scSo.nd rfl (.inl rfl))) (fun _ _ _ _ _ => pts_nil) (fun _ _ _ _ _ => (pe_dn GT (hr.mono (by omega)) rfl (pa_cons (pv 0) (pa_cons (pe_ix (r := rIxT K) ix_tup (pv 4) pe_int (fun _ _ => rfl)) (pa_cons (pv 2) (pa_cons (pv 3) (pa_cons (pv 8) pa_nil)))))))) pa_nil))))
        pss_nil)
      (pss_cons (ps_if (pt_cmpR op_eq (pe_ix (r := rIxT K) ix_tup (pv 4) pe_int (fun _ _ => rfl)) pe_str (nomark _))
        (pss_one (ps_ret (pe_callB (r := rAll K) (cr_all rfl) (by rfl) T.all (by decide +kernel) (pa_cons (pe_lc (own := [("_law_k", 8)]) (g := gName 8) (tt := tYes) rfl scSo.nd (pi_list (pe_slice (r := rSlL K) sl_list (pv 5) po_none (po_some pe_int))) (blkOk_by (N := nSo) (sc := defScope sSo) (by decide +kernel)) (fun _ _ _ _ _ => (pg_name (i := 8) scSo.nd rfl (.inl rfl))) (fun _ _ _ _ _ => pts_nil) (fun _ _ _ _ _ => (pe_dn GT (hr.mono (by omega)) rfl (pa_cons (pv 0) (pa_cons (pe_ix (r := rIxT K) ix_tup (pv 4) pe_int (fun _ _ => rfl)) (pa_cons (pv 2) (pa_cons (pv 3) (pa_cons (pv 8) pa_nil)))))))) pa_nil))))
        pss_nil)
      (pss_cons (ps_if (pt_cmpR op_eq (pe_ix (r := rIxT K) ix_tup (pv 4) pe_int (fun _ _ => rfl)) pe_str (nomark _))
        (pss_one (ps_ret (pe_callB (r := rAll K) (cr_all rfl) (by rfl) T.all (by decide +kernel) (pa_cons (pe_lc (own := [("_law_k", 8)]) (g := gName 8) (tt := tYes) rfl scSo.nd (pi_list (pe_slice (r := rSlL K) sl_list (pv 5) (po_some (pe_un un_neg pe_int)) po_none)) (blkOk_by (N := nSo) (sc := defScope sSo) (by decide +kernel)) (fun _ _ _ _ _ => (pg_name (i := 8) scSo.nd rfl (.inl rfl))) (fun _ _ _ _ _ => pts_nil) (fun _ _ _ _ _ => (pe_dn GT (hr.mono (by omega)) rfl (pa_cons (pv 0) (pa_cons (pe_ix (r := rIxT K) ix_tup (pv 4) pe_int (fun _ _ => rfl)) (pa_cons (pv 2) (pa_cons (pv 3) (pa_cons (pv 8) pa_nil)))))))) pa_nil))))
        pss_nil)
      (pss_cons (ps_setLc (i := 6) (own := [("_law_k", 8)]) (g := gName 8) (tt := tYes) rfl scSo.nd rfl rfl (sw_true rfl rfl rfl (by decide +kernel)) (pi_list (pe_slice (r := rSlL K) sl_list (pv 5) po_none (po_some (pe_un un_neg pe_int)))) (blkOk_by (N := nSo) (sc := defScope sSo) (by decide +kernel)) (fun _ _ _ _ _ => (pg_name (i := 8) scSo.nd rfl (.inl rfl))) (fun _ _ _ _ _ => pts_nil) (fun _ _ _ _ _ => (pe_tup (pa_cons (pv 8) (pa_cons (pe_op op_add (pv 8) pe_int) pa_nil)))))
      (pss_cons (ps_if (pt_cmpR op_eq (pe_ix (r := rIxT K) ix_tup (pv 4) pe_int (fun _ _ => rfl)) pe_str (nomark _))
        (pss_one (ps_set (i := 6) scSo.nd rfl (.inl rfl) (pe_dn GP (hr.mono (by omega)) rfl (pa_cons (pv 2) pa_nil))))
        pss_nil)
      (pss_cons (ps_for PassesOwn.never rfl (pi_list (pv 6)) (pg_name (i := 7) scSo.nd rfl (.inl rfl))
        (pss_one (ps_if (pt_val (pe_dn GT (hr.mono (by omega)) rfl (pa_cons (pv 0) (pa_cons (pe_ix (r := rIxT K) ix_tup (pv 4) pe_int (fun _ _ => rfl)) (pa_cons (pv 2) (pa_cons (pv 3) (pa_cons (pe_ix (r := rIxT K) ix_tup (pv 7) pe_int (fun _ _ => rfl)) pa_nil)))))))
          (pss_one (ps_if (pt_not (pt_val (pe_dn GT (hr.mono (by omega)) rfl (pa_cons (pv 0) (pa_cons (pe_ix (r := rIxT K) ix_tup (pv 4) pe_int (fun _ _ => rfl)) (pa_cons (pv 2) (pa_cons (pv 3) (pa_cons (pe_ix (r := rIxT K) ix_tup (pv 7) pe_int (fun _ _ => rfl)) pa_nil))))))))
            (pss_one (ps_ret pe_bl))
            pss_nil))
          pss_nil)))
      (pss_one (ps_ret pe_bl)))))))))))))), ?_⟩
    -- the line
    have hline : ∃ rs t s xs m0, H as_ = some (.tup rs) ∧ rs[m]? = some (.ref t) ∧ H t = some (.tup (.str s :: .int ((m0 : Nat) : Int) :: xs)) := by
      cases p with
      | leaf kd i => exact hp.elim
      | un kd p' =>
        obtain ⟨m', hm, _⟩ := hA
        obtain ⟨rs, v, hs, hv, t, rfl, ht⟩ := C.line hm
        exact ⟨rs, t, _, _, _, hs, hv, ht⟩
      | bi kd p1 p2 =>
        obtain ⟨m1, m2, hm, _⟩ := hA
        obtain ⟨rs, v, hs, hv, t, rfl, ht⟩ := C.line hm
        exact ⟨rs, t, _, _, _, hs, hv, ht⟩
    obtain ⟨rs, t, _, _, _, hs, hv, _⟩ := hline
    refine q_setV (evv_ix hs (evv_var (i := 0) rfl) (evv_var (i := 1) rfl) hv) ?_
    change tSeq _ _ _ [some (.ref as_), some (.int (m : Int)), some (.ref ar), some (.ref al), some (.ref t), none, none, none, none] H
    obtain ⟨xs, hxs, hrow⟩ := C.row
    refine evv_is (evv_lenL hxs (evv_var (i := 2) rfl)) (by rw [← hrow.length]) H (Same.refl _) _ ⟨_, rfl, .of_le (by omega) (by omega) (by omega) (by omega), fun lp hlp => ?_⟩
    rw [rg_ints]
    have e1 : Same H (upd H lp (.lst (intsV (List.range row.length)))) := same_new hlp
    have h1 : upd H lp (.lst (intsV (List.range row.length))) lp = some (.lst (intsV (List.range row.length))) := upd_same
    generalize upd H lp (.lst (intsV (List.range row.length))) = H1 at e1 h1
    dsimp only
    change tSeq _ _ _ [some (.ref as_), some (.int (m : Int)), some (.ref ar), some (.ref al), some (.ref t), some (.ref lp), none, none, none] H1
    have C1 := C.same e1
    cases p with
    | leaf kd i => exact hp.elim
    | un kd p' =>
      obtain ⟨m', hm, hA'⟩ := hA
      obtain ⟨rs', v, hs', hv', t', rfl, ht⟩ := C1.line hm
      rw [e1 _ _ hs] at hs'
      cases hs'
      rw [hv] at hv'
      cases hv'
      have hd' : p'.dep + 1 < n + 1 := hd
      have hd0 : ∀ (K : PySem.W.Frag), EvV (tOp (rIxT K) (tVar 4) (tC (.int 0))) [some (.ref as_), some (.int (m : Int)), some (.ref ar), some (.ref al), some (.ref t), some (.ref lp), none, none, none] H1 (.str kd.str) := fun K => evv_ix (j := 0) ht (evv_var rfl) evv_c rfl
      have el : ∀ (z : Nat) H2, z < row.length → Same H1 H2 → ∀ Q : VK, Q (.bl (tru row S z p')) H2 → tCall (spTrue n) [] E0 (tCons (tVar 0) (tCons (tOp (rIxT K) (tVar 4) (tC (.int 1))) (tCons (tVar 2) (tCons (tVar 3) (tCons (tVar 8) tNil)))))
          ((wipe [some (.ref as_), some (.int (m : Int)), some (.ref ar), some (.ref al), some (.ref t), some (.ref lp), none, none, none] [8]).set 8 (some (.int (z : Int)))) H2 Q := fun z H2 hz s2 Q q =>
        true_at (C1.same s2) hA' (by cases kd <;> first | exact hp | exact hp.elim) (by omega) hz rfl (evv_ix (j := 1) (s2 _ _ ht) (evv_var rfl) evv_c rfl) rfl rfl (evv_var rfl) q
      cases kd with
      | not => exact hp.elim
      | all =>
        refine hd0 _ H1 (Same.refl _) _ ⟨rfl, false, congrArg V.bl (by decide +kernel), iteF ?_⟩
        refine hd0 _ H1 (Same.refl _) _ ⟨rfl, false, congrArg V.bl (by decide +kernel), iteF ?_⟩
        refine hd0 _ H1 (Same.refl _) _ ⟨rfl, false, congrArg V.bl (by decide +kernel), iteF ?_⟩
        refine hd0 _ H1 (Same.refl _) _ ⟨rfl, false, congrArg V.bl (by decide +kernel), iteF ?_⟩
        refine hd0 _ H1 (Same.refl _) _ ⟨rfl, true, congrArg V.bl (by decide +kernel), iteT ?_⟩
        exact all_lc (zs := List.range row.length) (g := fun k => tru row S k p') (by rw [List.length_range]; omega) (fun Q q => ⟨_, rfl, q lp H1 (Same.refl _) h1⟩) (fun _ => rfl) (fun z H2 hz s2 Q q => el z H2 (List.mem_range.mp hz) s2 Q q) fun H2 s2 => q H2 (e1.trans s2)
      | first =>
        refine hd0 _ H1 (Same.refl _) _ ⟨rfl, false, congrArg V.bl (by decide +kernel), iteF ?_⟩
        refine hd0 _ H1 (Same.refl _) _ ⟨rfl, false, congrArg V.bl (by decide +kernel), iteF ?_⟩
        refine hd0 _ H1 (Same.refl _) _ ⟨rfl, false, congrArg V.bl (by decide +kernel), iteF ?_⟩
        refine hd0 _ H1 (Same.refl _) _ ⟨rfl, false, congrArg V.bl (by decide +kernel), iteF ?_⟩
        refine hd0 _ H1 (Same.refl _) _ ⟨rfl, false, congrArg V.bl (by decide +kernel), iteF ?_⟩
        refine hd0 _ H1 (Same.refl _) _ ⟨rfl, true, congrArg V.bl (by decide +kernel), iteT ?_⟩
        exact all_lc (zs := (List.range row.length).take 1) (g := fun k => tru row S k p') (by rw [List.length_take, List.length_range]; omega) (fun Q q => ⟨_, rfl, _, rfl, lp, _, rfl, sql h1, fun a ha => q a _ (same_new ha) (by rw [upd_same, cut_1 hl0])⟩) (fun _ => rfl)
          (fun z H2 hz s2 Q q => el z H2 (List.mem_range.mp (List.mem_of_mem_take hz)) s2 Q q) fun H2 s2 => q H2 (e1.trans s2)
      | last =>
        refine hd0 _ H1 (Same.refl _) _ ⟨rfl, false, congrArg V.bl (by decide +kernel), iteF ?_⟩
        refine hd0 _ H1 (Same.refl _) _ ⟨rfl, false, congrArg V.bl (by decide +kernel), iteF ?_⟩
        refine hd0 _ H1 (Same.refl _) _ ⟨rfl, false, congrArg V.bl (by decide +kernel), iteF ?_⟩
        refine hd0 _ H1 (Same.refl _) _ ⟨rfl, false, congrArg V.bl (by decide +kernel), iteF ?_⟩
        refine hd0 _ H1 (Same.refl _) _ ⟨rfl, false, congrArg V.bl (by decide +kernel), iteF ?_⟩
        refine hd0 _ H1 (Same.refl _) _ ⟨rfl, false, congrArg V.bl (by decide +kernel), iteF ?_⟩
        refine hd0 _ H1 (Same.refl _) _ ⟨rfl, true, congrArg V.bl (by decide +kernel), iteT ?_⟩
        exact all_lc (zs := (List.range row.length).drop (row.length - 1)) (g := fun k => tru row S k p') (by rw [List.length_drop, List.length_range]; omega) (fun Q q => ⟨_, rfl, _, rfl, _, rfl, lp, _, rfl, sql h1, fun a ha => q a _ (same_new ha) (by rw [upd_same, cut_m1 hl0])⟩) (fun _ => rfl)
          (fun z H2 hz s2 Q q => el z H2 (List.mem_range.mp (List.mem_of_mem_drop hz)) s2 Q q) fun H2 s2 => q H2 (e1.trans s2)
    | bi kd p1 p2 =>
      obtain ⟨m1, m2, hm, hA1, hA2⟩ := hA
      obtain ⟨rs', v, hs', hv', t', rfl, ht⟩ := C1.line hm
      rw [e1 _ _ hs] at hs'
      cases hs'
      rw [hv] at hv'
      cases hv'
      have hd' : max p1.dep p2.dep + 1 < n + 1 := hd
      have hd0 : ∀ (K : PySem.W.Frag), EvV (tOp (rIxT K) (tVar 4) (tC (.int 0))) [some (.ref as_), some (.int (m : Int)), some (.ref ar), some (.ref al), some (.ref t), some (.ref lp), none, none, none] H1 (.str kd.str) := fun K => evv_ix (j := 0) ht (evv_var rfl) evv_c rfl
      have no : ∀ (kd : BK) (w : Str), decide (V.str kd.str = V.str w) = false → decide (V.str kd.str = V.str w) = false := fun _ _ h => h
      cases kd with
      | and => exact hp.elim
      | both =>
        refine hd0 _ H1 (Same.refl _) _ ⟨rfl, false, congrArg V.bl (by decide +kernel), iteF ?_⟩
        refine hd0 _ H1 (Same.refl _) _ ⟨rfl, false, congrArg V.bl (by decide +kernel), iteF ?_⟩
        refine hd0 _ H1 (Same.refl _) _ ⟨rfl, true, congrArg V.bl (by decide +kernel), iteT ?_⟩
        refine so_at C1 hA1 hp.1 (by omega) W hl0 hl1 rfl (evv_ix (j := 1) ht (evv_var rfl) evv_c rfl) rfl rfl fun H2 s2 => ⟨_, rfl, ?_⟩
        have q' : ∀ H', Same H H' → Q (.bl (so row S p1 && so row S p2)) H' := q
        cases e : so row S p1 with
        | false =>
          rw [e] at q'
          exact iteF (q' H2 (e1.trans s2))
        | true =>
          rw [e] at q'
          refine iteT ?_
          exact so_at (C1.same s2) hA2 hp.2 (by omega) W hl0 hl1 rfl (evv_ix (j := 2) (s2 _ _ ht) (evv_var rfl) evv_c rfl) rfl rfl fun H3 s3 => q' H3 (e1.trans (s2.trans s3))
      | next =>
        refine hd0 _ H1 (Same.refl _) _ ⟨rfl, false, congrArg V.bl (by decide +kernel), iteF ?_⟩
        refine hd0 _ H1 (Same.refl _) _ ⟨rfl, false, congrArg V.bl (by decide +kernel), iteF ?_⟩
        refine hd0 _ H1 (Same.refl _) _ ⟨rfl, false, congrArg V.bl (by decide +kernel), iteF ?_⟩
        refine hd0 _ H1 (Same.refl _) _ ⟨rfl, false, congrArg V.bl (by decide +kernel), iteF ?_⟩
        refine hd0 _ H1 (Same.refl _) _ ⟨rfl, false, congrArg V.bl (by decide +kernel), iteF ?_⟩
        refine hd0 _ H1 (Same.refl _) _ ⟨rfl, false, congrArg V.bl (by decide +kernel), iteF ?_⟩
        refine hd0 _ H1 (Same.refl _) _ ⟨rfl, false, congrArg V.bl (by decide +kernel), iteF ?_⟩
        refine nx_go ?_
        dsimp only
        change tSeq _ _ _ [some (.ref as_), some (.int (m : Int)), some (.ref ar), some (.ref al), some (.ref t), some (.ref lp), none, none, none] H1
        refine q_raw (pairs_lc (zs := List.range (row.length - 1)) (by rw [List.length_range]; omega) (fun Q q => ⟨_, rfl, _, rfl, _, rfl, lp, _, rfl, sql h1, fun a ha => q a _ (same_new ha) (by rw [upd_same]; exact congrArg (fun l => some (HO.lst l)) (cut_t1 hl0))⟩) (fun _ => rfl) (fun _ => rfl) fun l1 ys1 H2 s2 h2 hps => ?_)
        change tSeq _ _ _ [some (.ref as_), some (.int (m : Int)), some (.ref ar), some (.ref al), some (.ref t), some (.ref lp), some (.ref l1), none, none] H2
        refine evv_ix (j := 0) (s2 _ _ ht) (evv_var (i := 4) rfl) evv_c rfl H2 (Same.refl _) _ ⟨rfl, false, congrArg V.bl (by decide +kernel), iteF ?_⟩
        refine for_pairs (C1.same s2) hA1 hA2 hp.1 hp.2 (by omega) (by omega) (s2 _ _ ht) h2 hps (fun x hx => ?_) ?_
        · obtain ⟨k, hk, rfl⟩ := List.mem_map.mp hx
          have := List.mem_range.mp hk
          exact ⟨by show k < _; omega, by show k + 1 < _; omega⟩
        · have q2 := q H2 (e1.trans s2)
          rw [List.all_map]
          exact q2
      | arch =>
        refine hd0 _ H1 (Same.refl _) _ ⟨rfl, false, congrArg V.bl (by decide +kernel), iteF ?_⟩
        refine hd0 _ H1 (Same.refl _) _ ⟨rfl, false, congrArg V.bl (by decide +kernel), iteF ?_⟩
        refine hd0 _ H1 (Same.refl _) _ ⟨rfl, false, congrArg V.bl (by decide +kernel), iteF ?_⟩
        refine hd0 _ H1 (Same.refl _) _ ⟨rfl, false, congrArg V.bl (by decide +kernel), iteF ?_⟩
        refine hd0 _ H1 (Same.refl _) _ ⟨rfl, false, congrArg V.bl (by decide +kernel), iteF ?_⟩
        refine hd0 _ H1 (Same.refl _) _ ⟨rfl, false, congrArg V.bl (by decide +kernel), iteF ?_⟩
        refine hd0 _ H1 (Same.refl _) _ ⟨rfl, false, congrArg V.bl (by decide +kernel), iteF ?_⟩
        refine nx_go ?_
        dsimp only
        change tSeq _ _ _ [some (.ref as_), some (.int (m : Int)), some (.ref ar), some (.ref al), some (.ref t), some (.ref lp), none, none, none] H1
        refine q_raw (pairs_lc (zs := List.range (row.length - 1)) (by rw [List.length_range]; omega) (fun Q q => ⟨_, rfl, _, rfl, _, rfl, lp, _, rfl, sql h1, fun a ha => q a _ (same_new ha) (by rw [upd_same]; exact congrArg (fun l => some (HO.lst l)) (cut_t1 hl0))⟩) (fun _ => rfl) (fun _ => rfl) fun l1 ys1 H2 s2 h2 hps => ?_)
        change tSeq _ _ _ [some (.ref as_), some (.int (m : Int)), some (.ref ar), some (.ref al), some (.ref t), some (.ref lp), some (.ref l1), none, none] H2
        refine evv_ix (j := 0) (s2 _ _ ht) (evv_var (i := 4) rfl) evv_c rfl H2 (Same.refl _) _ ⟨rfl, true, congrArg V.bl (by decide +kernel), iteT ?_⟩
        have e2 := e1.trans s2
        refine ⟨_, rfl, ar, xs, row, R, rfl, e2 _ _ hxs, hrow.tp (Same.tp e2), W, hl1, fun l3 ys3 H3 s3 h3 hps3 => ?_⟩
        have ht3 := s3 _ _ (s2 _ _ ht)
        refine for_pairs (C1.same (s2.trans s3)) hA1 hA2 hp.1 hp.2 (by omega) (by omega) ht3 h3 hps3 (fun x hx => ?_) ?_
        · obtain ⟨i, j⟩ := x
          obtain ⟨hj, hij, _⟩ := prs_ok W _ (Nat.le_refl _) i j hx
          exact ⟨by show i < _; omega, hj⟩
        · exact q H3 (e2.trans s3)
theorem so_all (F : DefAt K mg "_law_so" sSo) (T : Tx mg) (FT : DefAt K mg "_law_true" sTrue) (GP : Dn P w K mg base "_law_pairs_of" 1 ["_law_row"] spPairs) : ∀ n : Nat, Dn P w K mg base "_law_so" (n + 2) nSoP (spSo n)
  | 0 => (dn_none F (fun _ _ _ _ _ _ us hl => match us, hl with | [_, _, _, _], _ => rfl) fun vs H Q E h => by
    obtain ⟨as_, ar, al, m, L, row, S, p, R, _, _, _, _, h, _⟩ := h
    exact absurd h (Nat.not_lt_zero _)).mono (Nat.zero_le _)
  | n + 1 => ok_so F T (so_all F T FT GP n) (true_all FT T n) GP
end
end Arc


namespace Arc
open PySem PySem.Spec PyProof.Rows L2
theorem RdIn.tp {H H' : Hp} (e : Tp H H') {R : Rdr} {a la le mu wr ac : Addr} {ms ws : List V} (h : RdIn H R a la le mu wr ac ms ws) : RdIn H' R a la le mu wr ac ms ws := by
  refine ⟨e _ _ h.top, e _ _ h.lab, e _ _ h.let_, e _ _ h.mul, ⟨h.mulR.1, fun x hx => ?_⟩, e _ _ h.wrap, ⟨h.wrapR.1, fun x hx => ?_⟩, e _ _ h.acc⟩
  · obtain ⟨p, h1, h2⟩ := h.mulR.2 x hx
    exact ⟨p, h1, e _ _ h2⟩
  · obtain ⟨p, h1, us, h2, h3, h4⟩ := h.wrapR.2 x hx
    refine ⟨p, h1, us, e _ _ h2, h3, fun y hy => ?_⟩
    obtain ⟨q, h5, h6⟩ := h4 y hy
    exact ⟨q, h5, e _ _ h6⟩
theorem pair_ix {α β : Type} {F : α → β → Prop} : ∀ {as : List α} {bs : List β}, as.length = bs.length → (∀ (i : Nat) (a : α) (b : β), as[i]? = some a → bs[i]? = some b → F a b) → Paired F as bs
  | [], [], _, _ => .nil
  | [], _ :: _, h, _ => absurd h (by simp)
  | _ :: _, [], h, _ => absurd h (by simp)
  | a :: as, b :: bs, h, f => .cons (f 0 a b rfl rfl) (pair_ix (Nat.succ.inj h) fun i a b h1 h2 => f (i + 1) a b h1 h2)
theorem pair_set {α β : Type} {F : α → β → Prop} {a : α} {b : β} (r : F a b) : ∀ {as : List α} {bs : List β} (i : Nat), Paired F as bs → Paired F (as.set i a) (bs.set i b)
  | _, _, _, .nil => .nil
  | _, _, 0, .cons _ t => .cons r t
  | _, _, i + 1, .cons q t => .cons q (pair_set r i t)
theorem sets_rd {R : Rdr} {row : List Place} {H0 H : Hp} {ls : Addr} {ps : List Addr} (S : SetsAt H0 H ls ps (cK R row row.length)) (hl : ps.length = 2 * R.n) : SetsRd H (docS R row) (ps.map V.ref) := by
  have hd : (docS R row).length = 2 * R.n := docK_len R row row.length
  refine pair_ix (by rw [hd, List.length_map, hl]) fun i s v h1 h2 => ?_
  rw [List.getElem?_map] at h2
  obtain ⟨p, hp, rfl⟩ := Option.map_eq_some_iff.mp h2
  refine ⟨p, rfl, ?_⟩
  have h3 := (S.at_ i p hp).2.2
  have e : cK R row row.length i = s := by
    show (docS R row).getD i [] = s
    rw [List.getD_eq_getElem?_getD, h1]
    rfl
  rw [e] at h3
  exact h3
/-- a list of lists is none of its lists -/
theorem rd_ne {H : Hp} {S : List (List Nat)} {ss : List V} {l p : Addr} {i : Nat} (hl : H l = some (.lst ss)) (hi : ss[i]? = some (.ref p)) (hS : SetsRd H S ss) : p ≠ l := by
  rintro rfl
  obtain ⟨s, _, p', e, hp⟩ := pair_get hS hi
  cases e
  rw [hl] at hp
  have e : ss = intsV s := by
    injection hp with hp
    injection hp
  rw [e] at hi
  unfold intsV at hi
  rw [List.getElem?_map] at hi
  obtain ⟨n, _, h⟩ := Option.map_eq_some_iff.mp hi
  cases h
theorem rd_tp {H H' : Hp} {S : List (List Nat)} {ss : List V} (hS : SetsRd H S ss) (e : ∀ (i : Nat) p xs, ss[i]? = some (.ref p) → H p = some (.lst xs) → H' p = some (.lst xs)) : SetsRd H' S ss := by
  refine pair_ix hS.length fun i s v h1 h2 => ?_
  obtain ⟨s', h3, p, rfl, hp⟩ := pair_get hS h2
  rw [h1] at h3
  cases h3
  exact ⟨p, rfl, e i p _ h2 hp⟩
section
variable {K : PySem.W.Frag} {σ : St} {H : Hp}
/-- [list(x) for x in a list of lists] -/
theorem copy_lc {al : Addr} {S : List (List Nat)} {ss : List V} {i j : Nat} (hi : σ[i]? = some (some (.ref al))) (hal : H al = some (.lst ss)) (hS : SetsRd H S ss) (hz : ss.length ≤ 1000) (hw : ∀ x, wipe ((wipe σ [j]).set j (some x)) [j] = wipe σ [j])
    (hg : ∀ x, ((wipe σ [j]).set j (some x))[j]? = some (some x)) {Q : VK} (q : ∀ D ts H2, H D = none → Same H H2 → H2 D = some (.lst ts) → SetsRd H2 S ts → Q (.ref D) H2) :
    tLc (iList K (tVar i)) (gName j) tYes (tCB (tLstO K) (tCons (tVar j) tNil)) [j] σ H Q := by
  refine ⟨_, hi, al, rfl, ⟨_, sql hal⟩, fun D hD => lc_it (walk_list (xs := ss)) (fun k H' => Same H H' ∧ ∃ ts, H' D = some (.lst ts) ∧ SetsRd H' (S.take k) ts) ⟨same_new hD, [], upd_same, .nil⟩ (fun i H' _ hP => sql (hP.1 _ _ hal)) (fun k x H2 H3 hk hP hy => ?_) (fun H' hP => ?_)⟩
  · obtain ⟨rfl, hx⟩ := hy
    obtain ⟨s2, ts, h2, h3⟩ := hP
    obtain ⟨s, hs, p, rfl, hp⟩ := pair_get hS hx
    refine ⟨hw _, _, hg _, p, _, rfl, .inl (sql (s2 _ _ hp)), fun l hl => ⟨ts, same_new hl _ _ h2, szlt ?_, same_mut (s2.trans (same_new hl)) hD, _, upd_same, ?_⟩⟩
    · have := h3.length
      rw [List.length_take] at this
      omega
    · have lD : l ≠ D := (ne_of_none h2 hl).symm
      rw [List.take_add_one, hs]
      refine Paired.snoc (rd_tp h3 fun i p xs hi hp => ?_) ⟨l, rfl, by rw [upd_ne lD, upd_same]⟩
      rw [upd_ne (rd_ne h2 hi h3)]
      exact same_new hl _ _ hp
  · obtain ⟨s2, ts, h2, h3⟩ := hP
    rw [← hS.length, List.take_length] at h3
    exact q D ts H' hD s2 h2 h3
end
/-! ### the changed set -/
def tog (S : List Nat) (len at_ : Nat) : List Nat := (List.range len).filter fun j => !decide (V.bl (decide (j ∈ S)) = V.bl (decide (V.int (j : Int) = V.int (at_ : Int))))
theorem mem_tog {S : List Nat} {len at_ : Nat} (h : at_ < len) : at_ ∈ tog S len at_ ↔ ¬ at_ ∈ S := by
  unfold tog
  rw [List.mem_filter, List.mem_range]
  have e : decide (V.int (at_ : Int) = V.int (at_ : Int)) = true := decide_eq_true rfl
  rw [e]
  by_cases hm : at_ ∈ S
  · rw [decide_eq_true hm]
    simp [hm]
  · rw [decide_eq_false hm]
    simp [hm, h]
theorem tog_succ (S : List Nat) (i at_ : Nat) : tog S (i + 1) at_ = tog S i at_ ++ if (!decide (V.bl (decide (i ∈ S)) = V.bl (decide (V.int (i : Int) = V.int (at_ : Int))))) = true then [i] else [] := by
  unfold tog
  rw [List.range_succ, List.filter_append]
  congr 1
  rw [List.filter_cons]
  rfl
theorem tog_lc {K : PySem.W.Frag} {σ : St} {H : Hp} {tn : TE} {al p : Addr} {ss : List V} {Sn : List Nat} {len num at_ : Nat} (hn : EvV tn σ H (.int (len : Int))) (hz : len ≤ 1000) (hal : H al = some (.lst ss)) (hp : ss[num]? = some (.ref p)) (hS : H p = some (.lst (intsV Sn)))
    (hw : ∀ x, wipe ((wipe σ [12]).set 12 (some x)) [12] = wipe σ [12]) (hg : ∀ x, ((wipe σ [12]).set 12 (some x))[12]? = some (some x)) (h7 : ∀ x, ((wipe σ [12]).set 12 (some x))[7]? = some (some (.ref al))) (h8 : ∀ x, ((wipe σ [12]).set 12 (some x))[8]? = some (some (.int (num : Int))))
    (h9 : ∀ x, ((wipe σ [12]).set 12 (some x))[9]? = some (some (.int (at_ : Int)))) {Q : VK} (q : ∀ Z H', H Z = none → Same H H' → H' Z = some (.lst (intsV (tog Sn len at_))) → Q (.ref Z) H') :
    tLc (iRng1 (tCons tn tNil)) (gName 12) (tTest (tOp rNe (tOp (rIn K false) (tVar 12) (tOp (rIxL K) (tVar 7) (tVar 8))) (tOp rEq (tVar 12) (tVar 9)))) (tVar 12) [12] σ H Q :=
  hn H (Same.refl _) _ ⟨(len : Int), rfl, by omega, by omega, fun Z hZ => lc_it (n := len) (by rw [Int.toNat_natCast]; exact walk_range) (fun i H' => i ≤ len ∧ Same H H' ∧ H' Z = some (.lst (intsV (tog Sn i at_)))) ⟨Nat.zero_le _, same_new hZ, upd_same⟩ (fun _ _ _ _ => trivial) (fun i x H2 H3 hi hP hy => by
    obtain ⟨rfl, rfl⟩ := hy
    obtain ⟨_, s2, h2⟩ := hP
    refine ⟨hw _, ?_⟩
    dsimp only
    rw [Int.zero_add]
    refine ⟨_, hg _, _, h7 _, _, h8 _, al, ss, (num : Int), .ref p, rfl, rfl, sql (s2 _ _ hal), atI_nat hp, p, intsV Sn, rfl, .inl (sql (s2 _ _ hS)), rfl, flat_ints _, ?_⟩
    rw [if_neg Bool.false_ne_true, inV_ints]
    refine ⟨_, hg _, _, h9 _, rfl, rfl, _, rfl, ite2 (fun c => ?_) (fun c => ?_)⟩
    · refine ⟨_, hg _, _, h2, szlt ?_, hi, same_mut s2 hZ, ?_⟩
      · rw [intsV_len]
        have := List.length_filter_le (fun j : Nat => !decide (V.bl (decide (j ∈ Sn)) = V.bl (decide (V.int (j : Int) = V.int (at_ : Int))))) (List.range i)
        rw [List.length_range] at this
        show (List.filter _ (List.range i)).length < 100000
        omega
      · rw [upd_same, tog_succ, if_pos c]
        unfold intsV
        rw [List.map_append]
        rfl
    · refine ⟨hi, s2, ?_⟩
      rw [tog_succ, if_neg c, List.append_nil]
      exact h2) (fun H' hP => q Z H' hZ hP.2.1 hP.2.2)⟩
theorem other_false {R : Rdr} {row : List Place} (O : R.Ok) (W : RowOk R row) {num at_ : Nat} (hn : num < R.n) (ha : at_ < row.length) : so row ((docS R row).set num (tog ((docS R row).getD num []) row.length at_)) (walkP R) = false := by
  have hd : (docS R row).length = 2 * R.n := docK_len R row row.length
  have ne : ∀ v : Nat, v ≠ num → ((docS R row).set num (tog ((docS R row).getD num []) row.length at_)).getD v [] = (docS R row).getD v [] := fun v h => by
    rw [List.getD_eq_getElem?_getD, List.getElem?_set_ne h.symm, List.getD_eq_getElem?_getD]
  have eq : ((docS R row).set num (tog ((docS R row).getD num []) row.length at_)).getD num [] = tog ((docS R row).getD num []) row.length at_ := by
    rw [List.getD_eq_getElem?_getD, List.getElem?_set_self (by omega)]
    rfl
  refine walk_other O W (by rw [List.length_set, hd]) hn ha (fun u hu => ne _ (by omega)) ?_ (fun v hv hne => ?_)
  · show at_ ∈ _ ↔ _
    rw [eq]
    exact mem_tog ha
  · show at_ ∈ _ ↔ _
    rw [ne v hne]
theorem q_asg {te : TE} {g : TG} {u : TS} {D : Ends} {σ : St} {H : Hp} (h : te σ H (fun x H1 => g x σ H1 (u D))) : tSeq (tAsg te g) u D σ H := h
theorem op_c {r : R2} {x : V} {te : TE} {σ : St} {H : Hp} {Q : VK} (h : te σ H (fun y H2 => r x y H2 Q)) : tOp r (tC x) te σ H Q := h
/-! ### law -/
def spLaw (K : PySem.W.Frag) : Sp := fun vs H Q _ => ∃ (a : Addr) (ns : List Int), vs = [.ref a] ∧ SqL K H a (ns.map V.int) ∧ ns.length ≤ 63 ∧ ∀ H', Q (.bl true) H'
section
variable {P : Program} {w : World} {K : PySem.W.Frag} {mg : Str → Option Value} {base : Heap}
abbrev nLaw : List Str := ["_law_script", "_law_state", "_law_k", "_law_labels", "_law_reader", "_law_lines", "_law_row", "_law_sets", "_law_number", "_law_at", "_law_other", "_law_chosen", "_law_j"]
theorem scLaw : FnScope nLaw ["_law_script"] (defScope sLaw) := ⟨rfl, rfl, rfl, by decide +kernel, rfl, by decide +kernel, by decide +kernel⟩
theorem ok_law {f : Addr} {fd : FuncData} (F : Fun K "law" "law" sLaw f fd) (T : Tx mg) (GD : Dn P w K mg base "_law_draw" 1 ["_law_state", "_law_limit"] spDraw) (GR : Dn P w K mg base "_law_small_reader" 2 ["_law_state", "_law_labels"] spRdr)
    (GW : Dn P w K mg base "walk_for" 6 ["reader"] spWalkFor) (GT : Dn P w K mg base "_law_text" 2 ["_law_state", "_law_labels", "_law_most"] spText) (GS : Dn P w K mg base "sets_for" 1 ["reader", "text"] spSets)
    (GO : Dn P w K mg base "_law_so" 43 nSoP (spSo 41)) (GA : Dn P w K mg base "accepts" 4 ["reader", "text"] spAccepts) : FnOk P w K mg base CX0 44 f fd ["_law_script"] (spLaw K) := by
  refine F.ok scLaw (fun vs H Q E h => ?_) (fun cdv A outer s H vs Q E hr h => ?_)
  · obtain ⟨a, ns, rfl, _⟩ := h
    rfl
  · obtain ⟨a, ns, rfl, hS, hns, q⟩ := h
    refine ⟨_, (pss_cons (ps_set (i := 1) scLaw.nd rfl (.inr rfl) (pe_lst (pa_cons pe_int (pa_cons pe_int (pa_cons (pe_callTy (r := tLstO K) call_lstO (by rfl) T.list (by decide +kernel) (pa_cons (pv 0) pa_nil)) (pa_cons pe_int pa_nil))))))
      (pss_cons (ps_set (i := 3) scLaw.nd rfl (.inl rfl) (pe_callTy (r := tTupO K) call_tupO (by rfl) T.tuple (by decide +kernel) (pa_cons (pe_lc (own := [("_law_k", 2)]) (g := gName 2) (tt := tYes) rfl scLaw.nd (pi_range1 rfl T.range (pa_cons pe_int pa_nil)) (blkOk_by (N := nLaw) (sc := defScope sLaw) (by decide +kernel)) (fun _ _ _ _ _ => (pg_name (i := 2) scLaw.nd rfl (.inl rfl))) (fun _ _ _ _ _ => pts_nil) (fun _ _ _ _ _ => (pe_op op_add pe_int (pe_dn GD (hr.mono (by decide)) rfl (pa_cons (pv 1) (pa_cons pe_int pa_nil)))))) pa_nil)))
      (pss_cons (ps_set (i := 4) scLaw.nd rfl (.inl rfl) (pe_dn GR (hr.mono (by decide)) rfl (pa_cons (pv 1) (pa_cons (pv 3) pa_nil))))
      (pss_cons (ps_set (i := 5) scLaw.nd rfl (.inl rfl) (pe_dn GW (hr.mono (by decide)) rfl (pa_cons (pv 4) pa_nil)))
      (pss_cons (ps_for PassesOwn.never rfl (pi_range1 rfl T.range (pa_cons pe_int pa_nil)) (pg_name (i := 2) scLaw.nd rfl (.inl rfl))
        (pss_cons (ps_set (i := 6) scLaw.nd rfl (.inl rfl) (pe_dn GT (hr.mono (by decide)) rfl (pa_cons (pv 1) (pa_cons (pv 3) (pa_cons pe_int pa_nil)))))
        (pss_one (ps_if (pt_cmpR op_gt (pe_callB (r := tLenS K) call_lenS (by rfl) T.len PySem.boot_len (pa_cons (pv 6) pa_nil)) pe_int (nomark _))
          (pss_cons (ps_set (i := 7) scLaw.nd rfl (.inr rfl) (pe_dn GS (hr.mono (by decide)) rfl (pa_cons (pv 4) (pa_cons (pe_callTy (r := tLstO K) call_lstO (by rfl) T.list (by decide +kernel) (pa_cons (pv 6) pa_nil)) pa_nil))))
          (pss_cons (ps_if (pt_cmpR op_ne (pe_dn GO hr rfl (pa_cons (pv 5) (pa_cons (pe_op op_sub (pe_callB (r := tLenS K) call_lenS (by rfl) T.len PySem.boot_len (pa_cons (pv 5) pa_nil)) pe_int) (pa_cons (pv 6) (pa_cons (pv 7) pa_nil))))) (pe_dn GA (hr.mono (by decide)) rfl (pa_cons (pv 4) (pa_cons (pe_callTy (r := tLstO K) call_lstO (by rfl) T.list (by decide +kernel) (pa_cons (pv 6) pa_nil)) pa_nil))) (nomark _))
            (pss_one (ps_ret pe_bl))
            pss_nil)
          (pss_cons (ps_set (i := 8) scLaw.nd rfl (.inr rfl) (pe_dn GD (hr.mono (by decide)) rfl (pa_cons (pv 1) (pa_cons (pe_callB (r := tLenS K) call_lenS (by rfl) T.len PySem.boot_len (pa_cons (pe_ix (r := rIxT K) ix_tup (pv 4) pe_int (fun _ _ => rfl)) pa_nil)) pa_nil))))
          (pss_cons (ps_set (i := 9) scLaw.nd rfl (.inr rfl) (pe_dn GD (hr.mono (by decide)) rfl (pa_cons (pv 1) (pa_cons (pe_callB (r := tLenS K) call_lenS (by rfl) T.len PySem.boot_len (pa_cons (pv 6) pa_nil)) pa_nil))))
          (pss_cons (ps_setLc (i := 10) (own := [("_law_chosen", 11)]) (g := gName 11) (tt := tYes) rfl scLaw.nd rfl rfl (sw_true rfl rfl rfl (by decide +kernel)) (pi_list (pv 7)) (blkOk_by (N := nLaw) (sc := defScope sLaw) (by decide +kernel)) (fun _ _ _ _ _ => (pg_name (i := 11) scLaw.nd rfl (.inl rfl))) (fun _ _ _ _ _ => pts_nil) (fun _ _ _ _ _ => (pe_callTy (r := tLstO K) call_lstO (by rfl) T.list (by decide +kernel) (pa_cons (pv 11) pa_nil))))
          (pss_cons (ps_asg (pe_lc (own := [("_law_j", 12)]) (g := gName 12) (tt := _) rfl scLaw.nd (pi_range1 rfl T.range (pa_cons (pe_callB (r := tLenS K) call_lenS (by rfl) T.len PySem.boot_len (pa_cons (pv 6) pa_nil)) pa_nil)) (blkOk_by (N := nLaw) (sc := defScope sLaw) (by decide +kernel)) (fun _ _ _ _ _ => (pg_name (i := 12) scLaw.nd rfl (.inl rfl))) (fun _ _ _ _ _ => (pts_one (pt_cmpR op_ne (pe_cmpR (r := rIn K false) op_in_seq (pv 12) (pe_ix (r := rIxL K) ix_list (pv 7) (pv 8) (fun _ _ => rfl)) (by rfl)) (pe_cmpR op_eq (pv 12) (pv 9) (nomark _)) (nomark _)))) (fun _ _ _ _ _ => (pv 12))) (pg_sub (pv 10) (pv 8) set_list))
          (pss_one (ps_if (pt_val (pe_dn GO hr rfl (pa_cons (pv 5) (pa_cons (pe_op op_sub (pe_callB (r := tLenS K) call_lenS (by rfl) T.len PySem.boot_len (pa_cons (pv 5) pa_nil)) pe_int) (pa_cons (pv 6) (pa_cons (pv 10) pa_nil))))))
            (pss_one (ps_ret pe_bl))
            pss_nil))))))))
          pss_nil))))
      (pss_one (ps_ret pe_bl))))))), ?_⟩
    -- the state
    refine ⟨_, rfl, a, _, rfl, .inl hS, fun sc hsc => ⟨by show 4 ≤ sizeLine; decide, fun st hst => ?_⟩⟩
    have ds : DS st sc ns (upd (upd H sc (.lst (ns.map V.int))) st (.lst [.int 0, .int 0, .ref sc, .int 1])) :=
      ⟨⟨0, 0, 1, upd_same, Int.le_refl 0⟩, sw_new hst upd_same, ne_of_none (upd_same (o := .lst (ns.map V.int))) hst⟩
    generalize upd (upd H sc (.lst (ns.map V.int))) st (.lst [.int 0, .int 0, .ref sc, .int 1]) = H1 at ds
    dsimp only
    change tSeq _ _ _ [some (.ref a), some (.ref st), none, none, none, none, none, none, none, none, none, none, none] H1
    -- the labels
    refine q_raw (tup_w (n := 3) (P := fun _ v _ => ∃ z : Nat, v = .int (z : Int) ∧ 1 ≤ z ∧ z ≤ 2) ds (evv_c (v := .int ((3 : Nat) : Int))) (by decide) (fun _ => rfl) (fun _ _ _ _ h _ => h) (fun i H2 hi w2 Q q =>
      op_c (draw_at (L := 2) w2.ds (by decide) (by decide) (evv_var (i := 1) rfl) evv_c fun z H3 hz w3 => ⟨_, _, rfl, rfl, q _ H3 w3 ⟨1 + z, by rw [Int.natCast_add]; rfl, by omega, by omega⟩⟩)) fun la xl H2 hla w2 h2 hl2 hP2 => ?_)
    obtain ⟨nl, nc, nr, rfl, hl1, hl2', hc1, hc2, hr1, hr2⟩ : ∃ nl nc nr : Nat, xl = [.int (nl : Int), .int (nc : Int), .int (nr : Int)] ∧ 1 ≤ nl ∧ nl ≤ 2 ∧ 1 ≤ nc ∧ nc ≤ 2 ∧ 1 ≤ nr ∧ nr ≤ 2 := by
      match xl, hl2, hP2 with
      | [x, y, z], _, hP2 =>
        obtain ⟨z0, rfl, a1, a2⟩ := hP2 0 x rfl
        obtain ⟨z1, rfl, a3, a4⟩ := hP2 1 y rfl
        obtain ⟨z2, rfl, a5, a6⟩ := hP2 2 z rfl
        exact ⟨z0, z1, z2, rfl, a1, a2, a3, a4, a5, a6⟩
    change tSeq _ _ _ [some (.ref a), some (.ref st), none, some (.ref la), none, none, none, none, none, none, none, none, none] H2
    -- the reader
    refine ⟨_, rfl, _, rfl, st, sc, ns, la, nl, nc, nr, rfl, w2.ds, h2, hl2', hc2, hr2, fun v R H3 w3 rd3 O el ec er => ?_⟩
    subst el ec er
    dsimp only
    change tSeq _ _ _ [some (.ref a), some (.ref st), none, some (.ref la), some v, none, none, none, none, none, none, none, none] H3
    -- the walk
    refine ⟨_, rfl, v, R, rfl, rd3, O, fun tl rs H4 s4 h4 hL4 => ?_⟩
    dsimp only
    change tSeq _ _ _ [some (.ref a), some (.ref st), none, some (.ref la), some v, some (.ref tl), none, none, none, none, none, none, none] H4
    have w24 := w3.same s4
    have ds4 := w24.ds
    have hla4 := w24.tp w2.ds _ _ h2
    obtain ⟨ra, rla, rle, rmu, rwr, rac, ms, ws, rfl, rd3⟩ := rd3
    have rd4 := rd3.same s4
    have tp4 : ∀ {H'}, Wk st sc ns H4 H' → Tp H4 H' := fun w => w.tp ds4
    have hAt : At (lay (walkP R) 0) ((walkP R).size - 1) (walkP R) := by
      have h := at_lay (walkP R) [] []
      simpa using h
    have hrl : (rs.length : Int) - 1 = (((walkP R).size - 1 : Nat) : Int) := by
      have h1 := hL4.length
      rw [lay_length] at h1
      have h2 := size_pos (walkP R)
      omega
    have hdep : (walkP R).dep < 41 := by
      have := (bd_walk O).2
      omega
    refine q_rng (n := 2) (evv_c (v := .int ((2 : Nat) : Int))) (by decide) (fun i σ H' => ∃ y2 y6 y7 y8 y9 y10, σ = [some (.ref a), some (.ref st), y2, some (.ref la), some (.ref ra), some (.ref tl), y6, y7, y8, y9, y10, none, none] ∧ Wk st sc ns H4 H')
      ⟨none, none, none, none, none, none, rfl, Wk.refl ds4⟩ ?_ (fun σ H' ⟨_, _, _, _, _, _, _, _⟩ => q H')
    rintro i σ H5 hi ⟨y2, y6, y7, y8, y9, y10, rfl, w5⟩
    change tSeq _ _ _ [some (.ref a), some (.ref st), some (.int (i : Int)), some (.ref la), some (.ref ra), some (.ref tl), y6, y7, y8, y9, y10, none, none] H5
    have ds5 := w5.ds
    refine ⟨_, rfl, _, rfl, st, sc, ns, la, R.l, R.c, R.r, rfl, ds5, tp4 w5 _ _ hla4, hl1, hl2', hc1, hc2, hr1, hr2, fun ar xs row H6 har w6 hxs hrow hT hlen => ?_⟩
    have W : RowOk R row := hT.row
    have arst : ar ≠ st := ds5.ne_new har
    have w46 := w5.trans w6
    dsimp only
    change tIfS _ _ _ _ [some (.ref a), some (.ref st), some (.int (i : Int)), some (.ref la), some (.ref ra), some (.ref tl), some (.ref ar), y7, y8, y9, y10, none, none] H6
    refine ⟨_, rfl, ar, _, rfl, .inl (sql hxs), _, _, rfl, rfl, _, rfl, ite2 (fun c => ?_) (fun c => ⟨_, _, _, _, _, _, rfl, w46⟩)⟩
    have pos : 0 < row.length := by
      have h1 := of_decide_eq_true c
      have h2 := hrow.length
      omega
    have rd6 := rd4.tp (tp4 w46)
    refine ⟨_, rfl, _, rfl, ar, _, rfl, .inl (sql hxs), fun l2 hl2 => ⟨.ref ra, R, row, l2, xs, rfl, ⟨ra, rla, rle, rmu, rwr, rac, ms, ws, rfl, rd6.same (same_new hl2)⟩, O, upd_same, hrow.tp (tp_new hl2), W, by omega, fun ls ps H7 s7 S7 hps => ?_⟩⟩
    have s67 : Same H6 H7 := (same_new hl2).trans s7
    dsimp only
    change tSeq _ _ _ [some (.ref a), some (.ref st), some (.int (i : Int)), some (.ref la), some (.ref ra), some (.ref tl), some (.ref ar), some (.ref ls), y8, y9, y10, none, none] H7
    have lin : ∀ {H'}, Tp H4 H' → ∃ rs', H' tl = some (.tup rs') ∧ LinesAt H' (lay (walkP R) 0) rs' := fun e => ⟨rs, e _ _ h4, hL4.tp e⟩
    have tp47 := (tp4 w46).trans (Same.tp s67)
    have C7 : Ev0 H7 (lay (walkP R) 0) row (docS R row) tl ar ls := ⟨lin tp47, ⟨xs, s67 _ _ hxs, hrow.tp (Same.tp s67)⟩, ⟨_, S7.top, sets_rd S7 hps⟩⟩
    have hm : ∀ (K : PySem.W.Frag) (σ : St) H', Tp H4 H' → σ[5]? = some (some (.ref tl)) → EvV (tOp (rI0 fun i j => .int (i - j)) (tCB (tLenS K) (tCons (tVar 5) tNil)) (tC (.int 1))) σ H' (.int (((walkP R).size - 1 : Nat) : Int)) := fun K σ H' e h5 =>
      evv_is (evv_i0 (evv_lenT (e _ _ h4) (evv_var h5)) (evv_c (v := .int 1))) (by rw [hrl])
    refine ⟨_, rfl, hm _ _ _ tp47 rfl H7 (Same.refl _) _ ⟨_, rfl, _, rfl, tl, ar, ls, (walkP R).size - 1, lay (walkP R) 0, row, docS R row, walkP R, R, rfl, C7, hAt, so_walk R, hdep, W, pos, by omega, fun H8 s8 => ?_⟩⟩
    have s68 := s67.trans s8
    refine ⟨_, rfl, _, rfl, ar, _, rfl, .inl (sql (s68 _ _ hxs)), fun l3 hl3 => ⟨.ref ra, R, row, l3, xs, rfl, ⟨ra, rla, rle, rmu, rwr, rac, ms, ws, rfl, rd6.same (s68.trans (same_new hl3))⟩, O, upd_same, hrow.tp (Same.tp (s68.trans (same_new hl3))), W, by omega, fun H9 s9 => ⟨rfl, _, rfl, iteNS (congrArg V.bl (walk_doc O W pos)) ?_⟩⟩⟩
    have s79 : Same H7 H9 := s8.trans ((same_new hl3).trans s9)
    have s69 := s67.trans s79
    have w49 := w46.same s69
    refine nx_go ?_
    dsimp only
    change tSeq _ _ _ [some (.ref a), some (.ref st), some (.int (i : Int)), some (.ref la), some (.ref ra), some (.ref tl), some (.ref ar), some (.ref ls), y8, y9, y10, none, none] H9
    have rd9 := rd4.tp (tp4 w49)
    have n1 := O.n1; have n3 := O.n3
    refine q_raw (draw_at (L := R.n) w49.ds n1 (by omega) (evv_var (i := 1) rfl) (evv_is (evv_lenT rd9.mul (evv_ix rd9.top (evv_var (i := 4) rfl) (evv_c (v := .int ((3 : Nat) : Int))) rfl)) (by rw [rd9.mulR.1])) fun num H10 hnum w10 => ?_)
    change tSeq _ _ _ [some (.ref a), some (.ref st), some (.int (i : Int)), some (.ref la), some (.ref ra), some (.ref tl), some (.ref ar), some (.ref ls), some (.int (num : Int)), y9, y10, none, none] H10
    have hx10 := w10.at_ arst (s69 _ _ hxs)
    refine q_raw (draw_at (L := row.length) w10.ds pos (by omega) (evv_var (i := 1) rfl) (evv_is (evv_lenL hx10 (evv_var (i := 6) rfl)) (by rw [← hrow.length])) fun at_ H11 hat w11 => ?_)
    change tSeq _ _ _ [some (.ref a), some (.ref st), some (.int (i : Int)), some (.ref la), some (.ref ra), some (.ref tl), some (.ref ar), some (.ref ls), some (.int (num : Int)), some (.int (at_ : Int)), y10, none, none] H11
    have w9b := w10.trans w11
    have ds6' : DS st sc ns (upd H6 l2 (.lst xs)) := w6.ds.same (same_new hl2)
    have S11 : SetsAt (upd H6 l2 (.lst xs)) H11 ls ps (cK R row row.length) := S7.mono fun b hb o h => by
      refine w9b.at_ ?_ (s79 _ _ h)
      rcases hb with rfl | ⟨j, hj⟩
      · exact ds6'.ne_new S7.new
      · exact ds6'.ne_new (S7.at_ j b hj).1
    have hx11 := w11.at_ arst hx10
    have w411 := w49.trans w9b
    have hS11 := sets_rd S11 hps
    refine q_raw (copy_lc (i := 7) (j := 11) rfl S11.top hS11 (by rw [List.length_map]; omega) (fun _ => rfl) (fun _ => rfl) fun D ts H12 hD s12 hDt hts => ?_)
    change tSeq _ _ _ [some (.ref a), some (.ref st), some (.int (i : Int)), some (.ref la), some (.ref ra), some (.ref tl), some (.ref ar), some (.ref ls), some (.int (num : Int)), some (.int (at_ : Int)), some (.ref D), none, none] H12
    have hpn : ∃ pn, (ps.map V.ref)[num]? = some (.ref pn) ∧ H12 pn = some (.lst (intsV ((docS R row).getD num []))) := by
      have hlt : num < ps.length := by omega
      have e1 : ps[num]? = some ps[num] := List.getElem?_eq_getElem hlt
      exact ⟨ps[num], by rw [List.getElem?_map, e1]; rfl, s12 _ _ (S11.at_ num _ e1).2.2⟩
    obtain ⟨pn, hpn1, hpn2⟩ := hpn
    refine q_asg (tog_lc (len := row.length) (num := num) (at_ := at_) (evv_is (evv_lenL (s12 _ _ hx11) (evv_var (i := 6) rfl)) (by rw [← hrow.length])) (by omega) (s12 _ _ S11.top) hpn1 hpn2 (fun _ => rfl) (fun _ => rfl) (fun _ => rfl) (fun _ => rfl) (fun _ => rfl) fun Z H13 hZ s13 hZ13 => ?_)
    have htl : ts.length = 2 * R.n := by
      rw [← hts.length]
      exact docK_len R row row.length
    refine ⟨_, rfl, _, rfl, D, ts, (num : Int), num, rfl, rfl, s13 _ _ hDt, by unfold ixN; rw [if_pos (by omega), if_pos (by omega), Int.toNat_natCast], ?_⟩
    have hS13 : SetsRd H13 (docS R row) ts := rd_tp hts fun i p xs hi hp => s13 _ _ hp
    have ZD : Z ≠ D := (ne_of_none hDt hZ).symm
    have w1114 : Wk st sc ns H11 (upd H13 D (.lst (ts.set num (.ref Z)))) := Wk.mut w411.ds (Wk.of w411.ds (s12.trans s13)) hD
    have w414 := w411.trans w1114
    have C14 : Ev0 (upd H13 D (.lst (ts.set num (.ref Z)))) (lay (walkP R) 0) row ((docS R row).set num (tog ((docS R row).getD num []) row.length at_)) tl ar D := by
      refine ⟨lin (tp4 w414), ⟨xs, w1114.at_ arst hx11, ?_⟩, ⟨_, upd_same, pair_set ⟨Z, rfl, by rw [upd_ne ZD]; exact hZ13⟩ num (rd_tp hS13 fun i p xs hi hp => ?_)⟩⟩
      · exact hrow.tp ((Same.tp s69).trans ((w9b.tp w49.ds).trans (w1114.tp w411.ds)))
      · rw [upd_ne (rd_ne (s13 _ _ hDt) hi hS13)]
        exact hp
    refine ⟨_, rfl, hm _ _ _ (tp4 w414) rfl _ (Same.refl _) _ ⟨_, rfl, _, rfl, tl, ar, D, (walkP R).size - 1, lay (walkP R) 0, row, (docS R row).set num (tog ((docS R row).getD num []) row.length at_), walkP R, R, rfl, C14, hAt, so_walk R, hdep, W, pos, by omega, fun H15 s15 => ?_⟩⟩
    exact ⟨false, congrArg V.bl (other_false O W hnum hat), iteF ⟨_, _, _, _, _, _, rfl, w414.same s15⟩⟩
end
end Arc


namespace Arc
open PySem PySem.Spec PyProof.Rows L2
/-! ### what the top has written -/
theorem def_at {K : PySem.W.Frag} {h : Heap} {mg : Str → Option Value} {x : Str} {st : Stmt} {f : Addr} {oc : Value} {od an : Option Addr} {osl : Array (Option Value)} {kV doc pm cdv ct : Value} (X : K.In h) (G : h.Ns mainGlobals mg) (a : PySem.W.nsIn K mainGlobals x = some (some (.ref f)))
    (l : K.lookup f = some ⟨oc, od, .func (PySem.W.fnOf x x (defArgs st) (defBody st) (defScope st) .none kV doc pm an cdv ct), osl⟩) (c : PySem.W.codeIn K cdv x = true) (k : PySem.W.keepIn K (.ref f) = true) : DefAt K mg x st := ⟨f, _, fun_mk l c k, PySem.W.mg_of X G a⟩
theorem lv_at {K : PySem.W.Frag} {h : Heap} {mg : Str → Option Value} {a : Addr} {n : Nat} {d : Option Addr} {sl : Array (Option Value)} {t1 t2 t3 t4 t5 : Tok} (X : K.In h) (G : h.Ns mainGlobals mg) (g : PySem.W.nsIn K mainGlobals "LEAVES" = some (some (.ref a)))
    (l : K.lookup a = some ⟨.type "tuple", d, .seq #[.str "set" t1, .str "letter" t2, .str "call" t3, .str "return" t4, .str "nothing" t5] n, sl⟩) : Lv K mg a :=
  ⟨PySem.W.mg_of X G g, fun H => .inr ⟨_, _, _, l, rfl, rfl, (by show 5 ≤ sizeLine; decide), .cons ⟨_, rfl⟩ (.cons ⟨_, rfl⟩ (.cons ⟨_, rfl⟩ (.cons ⟨_, rfl⟩ (.cons ⟨_, rfl⟩ .nil))))⟩⟩
theorem kd_at {K : PySem.W.Frag} {h : Heap} {mg : Str → Option Value} {a : Addr} {n : Nat} {sl : Array (Option Value)} {t1 t2 t3 : Tok} (X : K.In h) (G : h.Ns mainGlobals mg) (g : PySem.W.nsIn K mainGlobals "KINDS" = some (some (.ref a)))
    (l : K.lookup a = some ⟨.type "tuple", none, .seq #[.str "letter" t1, .str "call" t2, .str "return" t3] n, sl⟩) : Kd K mg a :=
  ⟨PySem.W.mg_of X G g, fun H => .inr ⟨_, _, _, l, rfl, rfl, (by show 3 ≤ sizeLine; decide), .cons ⟨_, rfl⟩ (.cons ⟨_, rfl⟩ (.cons ⟨_, rfl⟩ .nil))⟩, _, l, rfl, rfl⟩
/-- the whole program, def by def -/
theorem law_all {P : Program} {w : World} {K : PySem.W.Frag} {mg : Str → Option Value} {base : Heap} {aL aK f : Addr} {fd : FuncData} {tM : Tok} (T : Tx mg) (LV : Lv K mg aL) (KD : Kd K mg aK) (mM : mg "MOST_LINES" = some (.int 4000 tM)) (F : Fun K "law" "law" sLaw f fd)
    (d0 : DefAt K mg "yes" sYes)
    (d1 : DefAt K mg "every" sEvery)
    (d2 : DefAt K mg "some" sSome)
    (d3 : DefAt K mg "if_then" sIf)
    (d4 : DefAt K mg "behind" sBehind)
    (d5 : DefAt K mg "apart" sApart)
    (d6 : DefAt K mg "arch_part" sArch)
    (d7 : DefAt K mg "walk_parts" sParts)
    (d8 : DefAt K mg "walk_part" sWalkP)
    (d9 : DefAt K mg "add_line" sAdd)
    (d10 : DefAt K mg "laid_out" sLaid)
    (d11 : DefAt K mg "walk_for" sWalkFor)
    (d12 : DefAt K mg "sets_for" sSets)
    (d13 : DefAt K mg "check_labels" sCheck)
    (d14 : DefAt K mg "value_behind" sBehV)
    (d15 : DefAt K mg "value" sValue)
    (d16 : DefAt K mg "accepts" sAcc)
    (d17 : DefAt K mg "_law_draw" sDraw)
    (d18 : DefAt K mg "_law_text" sText)
    (d19 : DefAt K mg "_law_product" sProd)
    (d20 : DefAt K mg "_law_small_reader" sRdr)
    (d21 : DefAt K mg "_law_true" sTrue)
    (d22 : DefAt K mg "_law_pairs_of" sPairs)
    (d23 : DefAt K mg "_law_so" sSo)
    : FnOk P w K mg base CX0 44 f fd ["_law_script"] (spLaw K) := by
  have GY : Dn P w K mg base "yes" 1 [] spYes := ok_yes d0
  have GI : Dn P w K mg base "if_then" 1 ["first", "second"] spIf := ok_if d3
  have GE := ok_every (P := P) (w := w) (base := base) d1 GY T.reversed
  have GS := ok_some (P := P) (w := w) (base := base) d2 GY T.reversed
  have GP := ok_apart (P := P) (w := w) (base := base) d5 GY GI
  have GB := ok_behind (P := P) (w := w) (base := base) d4 GI GE T.range T.len
  have GA := ok_arch (P := P) (w := w) (base := base) d6 GI GE T
  have GPs := ok_parts (P := P) (w := w) (base := base) d7 GS GE GP GB GA T
  have GW := ok_walkP (P := P) (w := w) (base := base) d8 GY GPs T
  have GL := ok_laid (P := P) (w := w) (base := base) d10 T LV (ok_add d9 T mM)
  have GF := ok_walkFor (P := P) (w := w) (base := base) d11 GW GL
  have GSe := ok_sets (P := P) (w := w) (base := base) d12 T
  have GAc := ok_accepts (P := P) (w := w) (base := base) d16 (ok_value d15 (ok_behV d14 (ok_check d13 T KD)))
  have GD := ok_draw (P := P) (w := w) (base := base) d17 T
  have GT := ok_text (P := P) (w := w) (base := base) d18 T GD
  have GR := ok_rdr (P := P) (w := w) (base := base) d20 T GD (ok_prod d19 T)
  have GO := so_all (P := P) (w := w) (base := base) d23 T d21 (ok_pairs d22 T) 41
  exact ok_law F T GD GR GF GT GSe GO GAc
/-! ### the law's own head -/
theorem all_mk {l : PySem.W.OpenLaw} {w : World} {K : PySem.W.Frag} {h : Heap} {mg : Str → Option Value} {fa : Addr} (X : K.In h) (G : h.Ns mainGlobals mg) (hfa : mg "law" = some (.ref fa))
    {f0 : Addr} {od0 an0 : Option Addr} {sl0 : Array (Option Value)} {oc0 kV0 dc0 pm0 cd0 ct0 : Value} (a0 : PySem.W.nsIn K mainGlobals "yes" = some (some (.ref f0))) (l0 : K.lookup f0 = some ⟨oc0, od0, .func (PySem.W.fnOf "yes" "yes" (defArgs sYes) (defBody sYes) (defScope sYes) .none kV0 dc0 pm0 an0 cd0 ct0), sl0⟩) (c0 : PySem.W.codeIn K cd0 "yes" = true) (k0 : PySem.W.keepIn K (.ref f0) = true)
    {f1 : Addr} {od1 an1 : Option Addr} {sl1 : Array (Option Value)} {oc1 kV1 dc1 pm1 cd1 ct1 : Value} (a1 : PySem.W.nsIn K mainGlobals "every" = some (some (.ref f1))) (l1 : K.lookup f1 = some ⟨oc1, od1, .func (PySem.W.fnOf "every" "every" (defArgs sEvery) (defBody sEvery) (defScope sEvery) .none kV1 dc1 pm1 an1 cd1 ct1), sl1⟩) (c1 : PySem.W.codeIn K cd1 "every" = true) (k1 : PySem.W.keepIn K (.ref f1) = true)
    {f2 : Addr} {od2 an2 : Option Addr} {sl2 : Array (Option Value)} {oc2 kV2 dc2 pm2 cd2 ct2 : Value} (a2 : PySem.W.nsIn K mainGlobals "some" = some (some (.ref f2))) (l2 : K.lookup f2 = some ⟨oc2, od2, .func (PySem.W.fnOf "some" "some" (defArgs sSome) (defBody sSome) (defScope sSome) .none kV2 dc2 pm2 an2 cd2 ct2), sl2⟩) (c2 : PySem.W.codeIn K cd2 "some" = true) (k2 : PySem.W.keepIn K (.ref f2) = true)
    {f3 : Addr} {od3 an3 : Option Addr} {sl3 : Array (Option Value)} {oc3 kV3 dc3 pm3 cd3 ct3 : Value} (a3 : PySem.W.nsIn K mainGlobals "if_then" = some (some (.ref f3))) (l3 : K.lookup f3 = some ⟨oc3, od3, .func (PySem.W.fnOf "if_then" "if_then" (defArgs sIf) (defBody sIf) (defScope sIf) .none kV3 dc3 pm3 an3 cd3 ct3), sl3⟩) (c3 : PySem.W.codeIn K cd3 "if_then" = true) (k3 : PySem.W.keepIn K (.ref f3) = true)
    {f4 : Addr} {od4 an4 : Option Addr} {sl4 : Array (Option Value)} {oc4 kV4 dc4 pm4 cd4 ct4 : Value} (a4 : PySem.W.nsIn K mainGlobals "behind" = some (some (.ref f4))) (l4 : K.lookup f4 = some ⟨oc4, od4, .func (PySem.W.fnOf "behind" "behind" (defArgs sBehind) (defBody sBehind) (defScope sBehind) .none kV4 dc4 pm4 an4 cd4 ct4), sl4⟩) (c4 : PySem.W.codeIn K cd4 "behind" = true) (k4 : PySem.W.keepIn K (.ref f4) = true)
    {f5 : Addr} {od5 an5 : Option Addr} {sl5 : Array (Option Value)} {oc5 kV5 dc5 pm5 cd5 ct5 : Value} (a5 : PySem.W.nsIn K mainGlobals "apart" = some (some (.ref f5))) (l5 : K.lookup f5 = some ⟨oc5, od5, .func (PySem.W.fnOf "apart" "apart" (defArgs sApart) (defBody sApart) (defScope sApart) .none kV5 dc5 pm5 an5 cd5 ct5), sl5⟩) (c5 : PySem.W.codeIn K cd5 "apart" = true) (k5 : PySem.W.keepIn K (.ref f5) = true)
    {f6 : Addr} {od6 an6 : Option Addr} {sl6 : Array (Option Value)} {oc6 kV6 dc6 pm6 cd6 ct6 : Value} (a6 : PySem.W.nsIn K mainGlobals "arch_part" = some (some (.ref f6))) (l6 : K.lookup f6 = some ⟨oc6, od6, .func (PySem.W.fnOf "arch_part" "arch_part" (defArgs sArch) (defBody sArch) (defScope sArch) .none kV6 dc6 pm6 an6 cd6 ct6), sl6⟩) (c6 : PySem.W.codeIn K cd6 "arch_part" = true) (k6 : PySem.W.keepIn K (.ref f6) = true)
    {f7 : Addr} {od7 an7 : Option Addr} {sl7 : Array (Option Value)} {oc7 kV7 dc7 pm7 cd7 ct7 : Value} (a7 : PySem.W.nsIn K mainGlobals "walk_parts" = some (some (.ref f7))) (l7 : K.lookup f7 = some ⟨oc7, od7, .func (PySem.W.fnOf "walk_parts" "walk_parts" (defArgs sParts) (defBody sParts) (defScope sParts) .none kV7 dc7 pm7 an7 cd7 ct7), sl7⟩) (c7 : PySem.W.codeIn K cd7 "walk_parts" = true) (k7 : PySem.W.keepIn K (.ref f7) = true)
    {f8 : Addr} {od8 an8 : Option Addr} {sl8 : Array (Option Value)} {oc8 kV8 dc8 pm8 cd8 ct8 : Value} (a8 : PySem.W.nsIn K mainGlobals "walk_part" = some (some (.ref f8))) (l8 : K.lookup f8 = some ⟨oc8, od8, .func (PySem.W.fnOf "walk_part" "walk_part" (defArgs sWalkP) (defBody sWalkP) (defScope sWalkP) .none kV8 dc8 pm8 an8 cd8 ct8), sl8⟩) (c8 : PySem.W.codeIn K cd8 "walk_part" = true) (k8 : PySem.W.keepIn K (.ref f8) = true)
    {f9 : Addr} {od9 an9 : Option Addr} {sl9 : Array (Option Value)} {oc9 kV9 dc9 pm9 cd9 ct9 : Value} (a9 : PySem.W.nsIn K mainGlobals "add_line" = some (some (.ref f9))) (l9 : K.lookup f9 = some ⟨oc9, od9, .func (PySem.W.fnOf "add_line" "add_line" (defArgs sAdd) (defBody sAdd) (defScope sAdd) .none kV9 dc9 pm9 an9 cd9 ct9), sl9⟩) (c9 : PySem.W.codeIn K cd9 "add_line" = true) (k9 : PySem.W.keepIn K (.ref f9) = true)
    {f10 : Addr} {od10 an10 : Option Addr} {sl10 : Array (Option Value)} {oc10 kV10 dc10 pm10 cd10 ct10 : Value} (a10 : PySem.W.nsIn K mainGlobals "laid_out" = some (some (.ref f10))) (l10 : K.lookup f10 = some ⟨oc10, od10, .func (PySem.W.fnOf "laid_out" "laid_out" (defArgs sLaid) (defBody sLaid) (defScope sLaid) .none kV10 dc10 pm10 an10 cd10 ct10), sl10⟩) (c10 : PySem.W.codeIn K cd10 "laid_out" = true) (k10 : PySem.W.keepIn K (.ref f10) = true)
    {f11 : Addr} {od11 an11 : Option Addr} {sl11 : Array (Option Value)} {oc11 kV11 dc11 pm11 cd11 ct11 : Value} (a11 : PySem.W.nsIn K mainGlobals "walk_for" = some (some (.ref f11))) (l11 : K.lookup f11 = some ⟨oc11, od11, .func (PySem.W.fnOf "walk_for" "walk_for" (defArgs sWalkFor) (defBody sWalkFor) (defScope sWalkFor) .none kV11 dc11 pm11 an11 cd11 ct11), sl11⟩) (c11 : PySem.W.codeIn K cd11 "walk_for" = true) (k11 : PySem.W.keepIn K (.ref f11) = true)
    {f12 : Addr} {od12 an12 : Option Addr} {sl12 : Array (Option Value)} {oc12 kV12 dc12 pm12 cd12 ct12 : Value} (a12 : PySem.W.nsIn K mainGlobals "sets_for" = some (some (.ref f12))) (l12 : K.lookup f12 = some ⟨oc12, od12, .func (PySem.W.fnOf "sets_for" "sets_for" (defArgs sSets) (defBody sSets) (defScope sSets) .none kV12 dc12 pm12 an12 cd12 ct12), sl12⟩) (c12 : PySem.W.codeIn K cd12 "sets_for" = true) (k12 : PySem.W.keepIn K (.ref f12) = true)
    {f13 : Addr} {od13 an13 : Option Addr} {sl13 : Array (Option Value)} {oc13 kV13 dc13 pm13 cd13 ct13 : Value} (a13 : PySem.W.nsIn K mainGlobals "check_labels" = some (some (.ref f13))) (l13 : K.lookup f13 = some ⟨oc13, od13, .func (PySem.W.fnOf "check_labels" "check_labels" (defArgs sCheck) (defBody sCheck) (defScope sCheck) .none kV13 dc13 pm13 an13 cd13 ct13), sl13⟩) (c13 : PySem.W.codeIn K cd13 "check_labels" = true) (k13 : PySem.W.keepIn K (.ref f13) = true)
    {f14 : Addr} {od14 an14 : Option Addr} {sl14 : Array (Option Value)} {oc14 kV14 dc14 pm14 cd14 ct14 : Value} (a14 : PySem.W.nsIn K mainGlobals "value_behind" = some (some (.ref f14))) (l14 : K.lookup f14 = some ⟨oc14, od14, .func (PySem.W.fnOf "value_behind" "value_behind" (defArgs sBehV) (defBody sBehV) (defScope sBehV) .none kV14 dc14 pm14 an14 cd14 ct14), sl14⟩) (c14 : PySem.W.codeIn K cd14 "value_behind" = true) (k14 : PySem.W.keepIn K (.ref f14) = true)
    {f15 : Addr} {od15 an15 : Option Addr} {sl15 : Array (Option Value)} {oc15 kV15 dc15 pm15 cd15 ct15 : Value} (a15 : PySem.W.nsIn K mainGlobals "value" = some (some (.ref f15))) (l15 : K.lookup f15 = some ⟨oc15, od15, .func (PySem.W.fnOf "value" "value" (defArgs sValue) (defBody sValue) (defScope sValue) .none kV15 dc15 pm15 an15 cd15 ct15), sl15⟩) (c15 : PySem.W.codeIn K cd15 "value" = true) (k15 : PySem.W.keepIn K (.ref f15) = true)
    {f16 : Addr} {od16 an16 : Option Addr} {sl16 : Array (Option Value)} {oc16 kV16 dc16 pm16 cd16 ct16 : Value} (a16 : PySem.W.nsIn K mainGlobals "accepts" = some (some (.ref f16))) (l16 : K.lookup f16 = some ⟨oc16, od16, .func (PySem.W.fnOf "accepts" "accepts" (defArgs sAcc) (defBody sAcc) (defScope sAcc) .none kV16 dc16 pm16 an16 cd16 ct16), sl16⟩) (c16 : PySem.W.codeIn K cd16 "accepts" = true) (k16 : PySem.W.keepIn K (.ref f16) = true)
    {f17 : Addr} {od17 an17 : Option Addr} {sl17 : Array (Option Value)} {oc17 kV17 dc17 pm17 cd17 ct17 : Value} (a17 : PySem.W.nsIn K mainGlobals "_law_draw" = some (some (.ref f17))) (l17 : K.lookup f17 = some ⟨oc17, od17, .func (PySem.W.fnOf "_law_draw" "_law_draw" (defArgs sDraw) (defBody sDraw) (defScope sDraw) .none kV17 dc17 pm17 an17 cd17 ct17), sl17⟩) (c17 : PySem.W.codeIn K cd17 "_law_draw" = true) (k17 : PySem.W.keepIn K (.ref f17) = true)
    {f18 : Addr} {od18 an18 : Option Addr} {sl18 : Array (Option Value)} {oc18 kV18 dc18 pm18 cd18 ct18 : Value} (a18 : PySem.W.nsIn K mainGlobals "_law_text" = some (some (.ref f18))) (l18 : K.lookup f18 = some ⟨oc18, od18, .func (PySem.W.fnOf "_law_text" "_law_text" (defArgs sText) (defBody sText) (defScope sText) .none kV18 dc18 pm18 an18 cd18 ct18), sl18⟩) (c18 : PySem.W.codeIn K cd18 "_law_text" = true) (k18 : PySem.W.keepIn K (.ref f18) = true)
    {f19 : Addr} {od19 an19 : Option Addr} {sl19 : Array (Option Value)} {oc19 kV19 dc19 pm19 cd19 ct19 : Value} (a19 : PySem.W.nsIn K mainGlobals "_law_product" = some (some (.ref f19))) (l19 : K.lookup f19 = some ⟨oc19, od19, .func (PySem.W.fnOf "_law_product" "_law_product" (defArgs sProd) (defBody sProd) (defScope sProd) .none kV19 dc19 pm19 an19 cd19 ct19), sl19⟩) (c19 : PySem.W.codeIn K cd19 "_law_product" = true) (k19 : PySem.W.keepIn K (.ref f19) = true)
    {f20 : Addr} {od20 an20 : Option Addr} {sl20 : Array (Option Value)} {oc20 kV20 dc20 pm20 cd20 ct20 : Value} (a20 : PySem.W.nsIn K mainGlobals "_law_small_reader" = some (some (.ref f20))) (l20 : K.lookup f20 = some ⟨oc20, od20, .func (PySem.W.fnOf "_law_small_reader" "_law_small_reader" (defArgs sRdr) (defBody sRdr) (defScope sRdr) .none kV20 dc20 pm20 an20 cd20 ct20), sl20⟩) (c20 : PySem.W.codeIn K cd20 "_law_small_reader" = true) (k20 : PySem.W.keepIn K (.ref f20) = true)
    {f21 : Addr} {od21 an21 : Option Addr} {sl21 : Array (Option Value)} {oc21 kV21 dc21 pm21 cd21 ct21 : Value} (a21 : PySem.W.nsIn K mainGlobals "_law_true" = some (some (.ref f21))) (l21 : K.lookup f21 = some ⟨oc21, od21, .func (PySem.W.fnOf "_law_true" "_law_true" (defArgs sTrue) (defBody sTrue) (defScope sTrue) .none kV21 dc21 pm21 an21 cd21 ct21), sl21⟩) (c21 : PySem.W.codeIn K cd21 "_law_true" = true) (k21 : PySem.W.keepIn K (.ref f21) = true)
    {f22 : Addr} {od22 an22 : Option Addr} {sl22 : Array (Option Value)} {oc22 kV22 dc22 pm22 cd22 ct22 : Value} (a22 : PySem.W.nsIn K mainGlobals "_law_pairs_of" = some (some (.ref f22))) (l22 : K.lookup f22 = some ⟨oc22, od22, .func (PySem.W.fnOf "_law_pairs_of" "_law_pairs_of" (defArgs sPairs) (defBody sPairs) (defScope sPairs) .none kV22 dc22 pm22 an22 cd22 ct22), sl22⟩) (c22 : PySem.W.codeIn K cd22 "_law_pairs_of" = true) (k22 : PySem.W.keepIn K (.ref f22) = true)
    {f23 : Addr} {od23 an23 : Option Addr} {sl23 : Array (Option Value)} {oc23 kV23 dc23 pm23 cd23 ct23 : Value} (a23 : PySem.W.nsIn K mainGlobals "_law_so" = some (some (.ref f23))) (l23 : K.lookup f23 = some ⟨oc23, od23, .func (PySem.W.fnOf "_law_so" "_law_so" (defArgs sSo) (defBody sSo) (defScope sSo) .none kV23 dc23 pm23 an23 cd23 ct23), sl23⟩) (c23 : PySem.W.codeIn K cd23 "_law_so" = true) (k23 : PySem.W.keepIn K (.ref f23) = true)
    {f24 : Addr} {od24 an24 : Option Addr} {sl24 : Array (Option Value)} {oc24 kV24 dc24 pm24 cd24 ct24 : Value} (a24 : PySem.W.nsIn K mainGlobals "law" = some (some (.ref f24))) (l24 : K.lookup f24 = some ⟨oc24, od24, .func (PySem.W.fnOf "law" "law" (defArgs sLaw) (defBody sLaw) (defScope sLaw) .none kV24 dc24 pm24 an24 cd24 ct24), sl24⟩) (c24 : PySem.W.codeIn K cd24 "law" = true) (k24 : PySem.W.keepIn K (.ref f24) = true)
    (z0 : PySem.W.nsIn K mainGlobals "len" = some none)
    (z1 : PySem.W.nsIn K mainGlobals "range" = some none)
    (z2 : PySem.W.nsIn K mainGlobals "reversed" = some none)
    (z3 : PySem.W.nsIn K mainGlobals "int" = some none)
    (z4 : PySem.W.nsIn K mainGlobals "max" = some none)
    (z5 : PySem.W.nsIn K mainGlobals "all" = some none)
    (z6 : PySem.W.nsIn K mainGlobals "tuple" = some none)
    (z7 : PySem.W.nsIn K mainGlobals "list" = some none)
    (z8 : PySem.W.nsIn K mainGlobals "enumerate" = some none)
    {aL aK : Addr} {nL nK : Nat} {dL : Option Addr} {slL slK : Array (Option Value)} {t1 t2 t3 t4 t5 u1 u2 u3 tM : Tok}
    (gL : PySem.W.nsIn K mainGlobals "LEAVES" = some (some (.ref aL))) (lL : K.lookup aL = some ⟨.type "tuple", dL, .seq #[.str "set" t1, .str "letter" t2, .str "call" t3, .str "return" t4, .str "nothing" t5] nL, slL⟩)
    (gK : PySem.W.nsIn K mainGlobals "KINDS" = some (some (.ref aK))) (lK : K.lookup aK = some ⟨.type "tuple", none, .seq #[.str "letter" u1, .str "call" u2, .str "return" u3] nK, slK⟩)
    (gM : PySem.W.nsIn K mainGlobals "MOST_LINES" = some (some (.int 4000 tM))) :
    ∃ fd : FuncData, (∀ (s : Shared) (v : Value), BindsTo s fd ⟨[v], []⟩ [("_law_script", v)]) ∧ ∀ base : Heap, K.In base → base.Ns mainGlobals mg → FnOk l.prog w K mg base CX0 44 fa fd ["_law_script"] (spLaw K) := by
  have e := hfa.symm.trans (PySem.W.mg_of X G a24)
  cases e
  have F := fun_mk (st := sLaw) l24 c24 k24
  have T : Tx mg := ⟨PySem.W.mg_none_of X G z0, PySem.W.mg_none_of X G z1, PySem.W.mg_none_of X G z2, PySem.W.mg_none_of X G z3, PySem.W.mg_none_of X G z4, PySem.W.mg_none_of X G z5, PySem.W.mg_none_of X G z6, PySem.W.mg_none_of X G z7, PySem.W.mg_none_of X G z8⟩
  refine ⟨PySem.W.fnOf "law" "law" (defArgs sLaw) (defBody sLaw) (defScope sLaw) .none kV24 dc24 pm24 an24 cd24 ct24, fun s v => .of_eq rfl, fun base _ _ => ?_⟩
  exact law_all T (lv_at X G gL lL) (kd_at X G gK lK) (PySem.W.mg_of X G gM) F
    (def_at X G a0 l0 c0 k0)
    (def_at X G a1 l1 c1 k1)
    (def_at X G a2 l2 c2 k2)
    (def_at X G a3 l3 c3 k3)
    (def_at X G a4 l4 c4 k4)
    (def_at X G a5 l5 c5 k5)
    (def_at X G a6 l6 c6 k6)
    (def_at X G a7 l7 c7 k7)
    (def_at X G a8 l8 c8 k8)
    (def_at X G a9 l9 c9 k9)
    (def_at X G a10 l10 c10 k10)
    (def_at X G a11 l11 c11 k11)
    (def_at X G a12 l12 c12 k12)
    (def_at X G a13 l13 c13 k13)
    (def_at X G a14 l14 c14 k14)
    (def_at X G a15 l15 c15 k15)
    (def_at X G a16 l16 c16 k16)
    (def_at X G a17 l17 c17 k17)
    (def_at X G a18 l18 c18 k18)
    (def_at X G a19 l19 c19 k19)
    (def_at X G a20 l20 c20 k20)
    (def_at X G a21 l21 c21 k21)
    (def_at X G a22 l22 c22 k22)
    (def_at X G a23 l23 c23 k23)
end Arc
open PySem PySem.W PyProof.Rows
set_option maxHeartbeats 0 in
theorem PySem.Challenge.cw_archway_k45_whole_walks_holds : PySem.Challenge.rw_archway_k45_whole_walks.Holds := by
  w_on; o_law; k_head; (case hw => w_witness2)
  k_fill
  refine L2.walk_of (l := PySem.Challenge.rw_archway_k45_whole_walks) (n := 63) (k := 44) (x := "_law_script") (CX := fun _ => L2.CX0) (sp := fun w => Arc.spLaw _) rfl (by decide) rfl ⟨rfl, by decide, by decide⟩ (fun w h Y => PySem.W.kIn_of Y) ?F (fun _ _ a ns hl _ hS => ⟨a, ns, rfl, hS, hl, fun _ => rfl⟩) (fun _ _ _ _ _ h => h)
  case F =>
    intro w mg fa h KX G hmg
    refine' Arc.all_mk KX G hmg ?a0 ?l0 ?c0 ?k0 ?a1 ?l1 ?c1 ?k1 ?a2 ?l2 ?c2 ?k2 ?a3 ?l3 ?c3 ?k3 ?a4 ?l4 ?c4 ?k4 ?a5 ?l5 ?c5 ?k5 ?a6 ?l6 ?c6 ?k6 ?a7 ?l7 ?c7 ?k7 ?a8 ?l8 ?c8 ?k8 ?a9 ?l9 ?c9 ?k9 ?a10 ?l10 ?c10 ?k10 ?a11 ?l11 ?c11 ?k11 ?a12 ?l12 ?c12 ?k12 ?a13 ?l13 ?c13 ?k13 ?a14 ?l14 ?c14 ?k14 ?a15 ?l15 ?c15 ?k15 ?a16 ?l16 ?c16 ?k16 ?a17 ?l17 ?c17 ?k17 ?a18 ?l18 ?c18 ?k18 ?a19 ?l19 ?c19 ?k19 ?a20 ?l20 ?c20 ?k20 ?a21 ?l21 ?c21 ?k21 ?a22 ?l22 ?c22 ?k22 ?a23 ?l23 ?c23 ?k23 ?a24 ?l24 ?c24 ?k24 ?z0 ?z1 ?z2 ?z3 ?z4 ?z5 ?z6 ?z7 ?z8 ?gL ?lL ?gK ?lK ?gM
    (case a0 => k_is)
    (case l0 => k_is)
    (case c0 => k_is)
    (case k0 => k_is)
    (case a1 => k_is)
    (case l1 => k_is)
    (case c1 => k_is)
    (case k1 => k_is)
    (case a2 => k_is)
    (case l2 => k_is)
    (case c2 => k_is)
    (case k2 => k_is)
    (case a3 => k_is)
    (case l3 => k_is)
    (case c3 => k_is)
    (case k3 => k_is)
    (case a4 => k_is)
    (case l4 => k_is)
    (case c4 => k_is)
    (case k4 => k_is)
    (case a5 => k_is)
    (case l5 => k_is)
    (case c5 => k_is)
    (case k5 => k_is)
    (case a6 => k_is)
    (case l6 => k_is)
    (case c6 => k_is)
    (case k6 => k_is)
    (case a7 => k_is)
    (case l7 => k_is)
    (case c7 => k_is)
    (case k7 => k_is)
    (case a8 => k_is)
    (case l8 => k_is)
    (case c8 => k_is)
    (case k8 => k_is)
    (case a9 => k_is)
    (case l9 => k_is)
    (case c9 => k_is)
    (case k9 => k_is)
    (case a10 => k_is)
    (case l10 => k_is)
    (case c10 => k_is)
    (case k10 => k_is)
    (case a11 => k_is)
    (case l11 => k_is)
    (case c11 => k_is)
    (case k11 => k_is)
    (case a12 => k_is)
    (case l12 => k_is)
    (case c12 => k_is)
    (case k12 => k_is)
    (case a13 => k_is)
    (case l13 => k_is)
    (case c13 => k_is)
    (case k13 => k_is)
    (case a14 => k_is)
    (case l14 => k_is)
    (case c14 => k_is)
    (case k14 => k_is)
    (case a15 => k_is)
    (case l15 => k_is)
    (case c15 => k_is)
    (case k15 => k_is)
    (case a16 => k_is)
    (case l16 => k_is)
    (case c16 => k_is)
    (case k16 => k_is)
    (case a17 => k_is)
    (case l17 => k_is)
    (case c17 => k_is)
    (case k17 => k_is)
    (case a18 => k_is)
    (case l18 => k_is)
    (case c18 => k_is)
    (case k18 => k_is)
    (case a19 => k_is)
    (case l19 => k_is)
    (case c19 => k_is)
    (case k19 => k_is)
    (case a20 => k_is)
    (case l20 => k_is)
    (case c20 => k_is)
    (case k20 => k_is)
    (case a21 => k_is)
    (case l21 => k_is)
    (case c21 => k_is)
    (case k21 => k_is)
    (case a22 => k_is)
    (case l22 => k_is)
    (case c22 => k_is)
    (case k22 => k_is)
    (case a23 => k_is)
    (case l23 => k_is)
    (case c23 => k_is)
    (case k23 => k_is)
    (case a24 => k_is)
    (case l24 => k_is)
    (case c24 => k_is)
    (case k24 => k_is)
    (case z0 => k_is)
    (case z1 => k_is)
    (case z2 => k_is)
    (case z3 => k_is)
    (case z4 => k_is)
    (case z5 => k_is)
    (case z6 => k_is)
    (case z7 => k_is)
    (case z8 => k_is)
    (case gL => k_is)
    (case lL => k_is)
    (case gK => k_is)
    (case lK => k_is)
    (case gM => k_is)


