import PyProof.Rows.All
import Wide.All
import OpenK.AllK
import Wide.FinOn
import HandS.ForMost
import HandS.Defaults
import KE.KStateDown
import HandS.More
import HandS.Head0
import HandS.Head1
import HandS.Head2
import HandS.HeadEnd
import HandS.HeadHook1
import HandS.HeadHook2
import HandS.HeadHook3
import HandS.HeadHook4
import HandS.HeadWalk
import KE.GoesEnum
import PyProof.TupleOfSeq
import HandS.Deep
import HandS.Walk
import HandS.TupAny
import HandS.IsInst
import HandS.Flow
import HandS.Style
import HandS.DictComp
import HandS.SortKw
import HandS.Lambda
import KE.SortData
import KE.SortKeyHeap
import KE.KDictSum
import HandS.Conv
import PySem.Challenge.RW_smallwidth_k16_whole_terms_and_bags
set_option linter.all false
set_option Elab.async false
/-! The mirror: what each def computes, over plain lists. -/
namespace SWM
inductive Stp where
  | empty | new (i : Nat) | edge (i j : Nat) | forget (i : Nat) | join
  deriving DecidableEq
abbrev Frm := List Nat × List (Nat × Nat)
def leN (a b : Nat) : Bool := decide (a ≤ b)
def leP (p q : Nat × Nat) : Bool := decide (p.1 < q.1 ∨ (p.1 = q.1 ∧ p.2 ≤ q.2))
def srtN (l : List Nat) : List Nat := l.mergeSort leN
def srtP (l : List (Nat × Nat)) : List (Nat × Nat) := l.mergeSort leP
/-- tuple(sorted([a, b])) -/
def sp (p : Nat × Nat) : Nat × Nat := if p.1 ≤ p.2 then p else (p.2, p.1)
/-! ### frames -/
def ar : Stp → Nat
  | .empty => 0 | .new _ => 1 | .edge _ _ => 1 | .forget _ => 1 | .join => 2
def nextF : Stp → List Frm → Option Frm
  | .empty, _ => some ([], [])
  | .new i, f :: _ => if i ∈ f.1 then none else some (srtN (f.1 ++ [i]), f.2)
  | .forget i, f :: _ => if i ∈ f.1 then some (f.1.filter (fun x => decide (x ≠ i)), f.2.filter fun q => decide (¬ (i = q.1 ∨ i = q.2))) else none
  | .edge i j, f :: _ => if i < j ∧ i ∈ f.1 ∧ j ∈ f.1 ∧ ¬ (i, j) ∈ f.2 then some (f.1, srtP (f.2 ++ [(i, j)])) else none
  | .join, f :: g :: _ => if g.1 = f.1 ∧ ∀ q ∈ g.2, ¬ q ∈ f.2 then some (f.1, srtP (f.2 ++ g.2)) else none
  | _, _ => none
/-- a step over the stack (the top at the end) -/
def stepF (s : Stp) (st : List Frm) : Option (List Frm) :=
  if st.length < ar s then none else (nextF s (st.drop (st.length - ar s))).map fun f => st.take (st.length - ar s) ++ [f]
def runF : List Stp → List Frm → Option (List Frm)
  | [], st => some st
  | s :: r, st => match stepF s st with
    | some st' => runF r st'
    | none => none
/-- the frames behind all steps -/
def frs : List Stp → List Frm → List Frm
  | [], _ => []
  | s :: r, st => match stepF s st with
    | some st' => st'.getLastD ([], []) :: frs r st'
    | none => []
def okStp (k : Nat) : Stp → Prop
  | .empty => True | .new i => i ≤ k | .edge i j => i ≤ k ∧ j ≤ k | .forget i => i ≤ k | .join => True
/-- a term for k: its frame f -/
structure IsTerm (T : List Stp) (k : Nat) (f : Frm) : Prop where
  ok : ∀ s ∈ T, okStp k s
  run : runF T [] = some [f]
/-! ### operands -/
def ops : List Stp → List Nat → Nat → List (List Nat)
  | [], _, _ => []
  | s :: r, st, i => st.drop (st.length - ar s) :: ops r (st.take (st.length - ar s) ++ [i]) (i + 1)
/-! ### dicts of numbers -/
def put : List (Nat × Nat) → Nat → Nat → List (Nat × Nat)
  | [], k, v => [(k, v)]
  | p :: r, k, v => if p.1 = k then (k, v) :: r else p :: put r k v
def lk : List (Nat × Nat) → Nat → Option Nat
  | [], _ => none
  | p :: r, k => if p.1 = k then some p.2 else lk r k
def lkD (m : List (Nat × Nat)) (k : Nat) : Nat := (lk m k).getD 0
def del (m : List (Nat × Nat)) (k : Nat) : List (Nat × Nat) := m.filter fun p => decide (p.1 ≠ k)
/-! ### the building -/
abbrev Gr := List (Nat × Nat) × List Nat
structure Bd where
  stk : List Gr
  bec : List (Nat × Nat)
  eds : List (Nat × Nat)
  tok : Nat
  shw : List (List Nat)
def Bd.start : Bd := ⟨[], [], [], 0, []⟩
/-- [sources[label] for label in sorted(sources)] -/
def shown (src : List (Nat × Nat)) : List Nat := (srtN (src.map (·.1))).map (lkD src)
def topG (b : Bd) : Gr := b.stk.getLastD ([], [])
def sndG (b : Bd) : Gr := b.stk.dropLast.getLastD ([], [])
def joinB (bec : List (Nat × Nat)) (lo : List (Nat × Nat)) (up : List (Nat × Nat)) : List (Nat × Nat) := up.foldl (fun m p => put m p.2 (lkD lo p.1)) bec
def restO (src : List (Nat × Nat)) (o : List Nat) : List Nat := o.filter fun t => decide (¬ t ∈ src.map (·.2))
def joinG (lo up : Gr) : Gr := (lo.1, lo.2 ++ restO up.1 up.2)
def takeB (b : Bd) : Stp → Bd
  | .empty => { b with stk := b.stk ++ [([], [])], shw := b.shw ++ [[]] }
  | .new i => { b with stk := b.stk.dropLast ++ [(put (topG b).1 i b.tok, (topG b).2 ++ [b.tok])], tok := b.tok + 1, shw := b.shw ++ [shown (put (topG b).1 i b.tok)] }
  | .edge i j => { b with eds := b.eds ++ [(lkD (topG b).1 i, lkD (topG b).1 j)], shw := b.shw ++ [shown (topG b).1], stk := b.stk.dropLast ++ [topG b] }
  | .forget i => { b with stk := b.stk.dropLast ++ [(del (topG b).1 i, (topG b).2)], shw := b.shw ++ [shown (topG b).1] }
  | .join => { b with stk := b.stk.dropLast.dropLast ++ [joinG (sndG b) (topG b)], bec := joinB b.bec (sndG b).1 (topG b).1, shw := b.shw ++ [shown (sndG b).1] }
def bld (T : List Stp) : Bd := T.foldl takeB Bd.start
/-- while token in becomes: token = becomes[token] -/
def resT (bec : List (Nat × Nat)) : Nat → Nat → Nat
  | 0, t => t
  | n + 1, t => match lk bec t with
    | some u => resT bec n u
    | none => t
def res (bec : List (Nat × Nat)) (t : Nat) : Nat := resT bec (t + 1) t
def ordT (T : List Stp) : List Nat := (topG (bld T)).2
def num (T : List Stp) (t : Nat) : Nat := (ordT T).idxOf (res (bld T).bec t)
def sizeT (T : List Stp) : Nat := (ordT T).length
def edgesT (T : List Stp) : List (Nat × Nat) := (bld T).eds.map fun p => sp (num T p.1, num T p.2)
/-- the edges of the graph that is made -/
def graphT (T : List Stp) : List (Nat × Nat) := srtP (edgesT T)
/-! ### bags -/
def bagsT (T : List Stp) : List (List Nat) := (bld T).shw.reverse.map fun ts => srtN (ts.map (num T))
def setAll (P : List Int) (v : Int) : List Nat → List Int
  | [] => P
  | i :: r => setAll (P.set i v) v r
def parG (n : Nat) : List (List Nat) → Nat → List Int → List Int
  | [], _, P => P
  | tk :: r, i, P => parG n r (i + 1) (setAll P ((n - 1 - i : Nat) : Int) (tk.map fun b => n - 1 - b))
def parsT (T : List Stp) : List Int := parG T.length (ops T [] 0) 0 (List.replicate T.length (-1))
/-! ### decompositions -/
def parOf (P : List Int) (i : Nat) : Nat := (P.getD i 0).toNat
def bagAt (B : List (List Nat)) (i : Nat) : List Nat := B.getD i []
def isTop (B : List (List Nat)) (P : List Int) (v i : Nat) : Bool := decide (v ∈ bagAt B i ∧ (i = 0 ∨ ¬ v ∈ bagAt B (parOf P i)))
def tops (B : List (List Nat)) (P : List Int) (v : Nat) : Nat := ((List.range B.length).filter (isTop B P v)).length
structure Dec (n : Nat) (es : List (Nat × Nat)) (B : List (List Nat)) (P : List Int) : Prop where
  ne : B ≠ []
  len : P.length = B.length
  mem : ∀ b ∈ B, ∀ v ∈ b, v < n
  asc : ∀ b ∈ B, b.Pairwise (· < ·)
  p0 : P[0]? = some (-1)
  par : ∀ i, 0 < i → i < B.length → ∃ j : Nat, P[i]? = some (j : Int) ∧ j < i
  ver : ∀ v, v < n → ∃ b ∈ B, v ∈ b
  edg : ∀ e ∈ es, ∃ b ∈ B, e.1 ∈ b ∧ e.2 ∈ b
  top : ∀ v, v < n → tops B P v ≤ 1
/-! ### labels -/
def leastF (used : List Nat) : Nat → Nat → Nat
  | 0, l => l
  | n + 1, l => if l ∈ used then leastF used n (l + 1) else l
/-- the least label that is not in use -/
def least (used : List Nat) : Nat := leastF used used.length 0
def asg1 (above : List Nat) (st : List (Nat × Nat) × List Nat) (v : Nat) : List (Nat × Nat) × List Nat :=
  if v ∈ above then st else (put st.1 v (least st.2), st.2 ++ [least st.2])
def used0 (m : List (Nat × Nat)) (bag above : List Nat) : List Nat := (bag.filter fun v => decide (v ∈ above)).map (lkD m)
def asg (m : List (Nat × Nat)) (bag above : List Nat) : List (Nat × Nat) := (bag.foldl (asg1 above) (m, used0 m bag above)).1
def aboveOf (B : List (List Nat)) (P : List Int) (i : Nat) : List Nat := if i = 0 then [] else bagAt B (parOf P i)
def labsTo (B : List (List Nat)) (P : List Int) (i : Nat) : List (Nat × Nat) := (List.range i).foldl (fun m j => asg m (bagAt B j) (aboveOf B P j)) []
def labs (B : List (List Nat)) (P : List Int) : List (Nat × Nat) := labsTo B P B.length
/-! ### rows -/
/-- the first bag with both ends -/
def fst2 (B : List (List Nat)) (e : Nat × Nat) : Nat := B.findIdx fun b => decide (e.1 ∈ b ∧ e.2 ∈ b)
def rowE (L : Nat → Nat) (B : List (List Nat)) (es : List (Nat × Nat)) (i : Nat) : List (Nat × Nat) := (es.filter fun e => decide (fst2 B e = i)).map fun e => sp (L e.1, L e.2)
def kids (P : List Int) (n : Nat) (i : Nat) : List Nat := (List.range n).filter fun c => decide (0 < c ∧ parOf P c = i)
def byL (L : Nat → Nat) (vs : List Nat) : List Nat := vs.mergeSort fun a b => leN (L a) (L b)
abbrev SO := List Stp × List Nat
def fromC (L : Nat → Nat) (bag below : List Nat) (x : SO) : SO :=
  (x.1 ++ (byL L (below.filter fun v => decide (¬ v ∈ bag))).map (fun v => Stp.forget (L v)) ++ (byL L (bag.filter fun v => decide (¬ v ∈ below))).map (fun v => Stp.new (L v)),
   x.2 ++ byL L (bag.filter fun v => decide (¬ v ∈ below)))
def leafSO (L : Nat → Nat) (bag : List Nat) : SO := (Stp.empty :: (byL L bag).map (fun v => Stp.new (L v)), byL L bag)
/-- one child more: y is fit for the bag -/
def addC (bag : List Nat) (x y : SO) : SO := (x.1 ++ (y.1 ++ [Stp.join]), x.2 ++ y.2.filter fun v => decide (¬ v ∈ bag))
/-- the children, each with its bag, fit for the bag and joined -/
def childSO (L : Nat → Nat) (bag : List Nat) : List (List Nat × SO) → SO
  | [] => leafSO L bag
  | c :: r => r.foldl (fun x d => addC bag x (fromC L bag d.1 d.2)) (fromC L bag c.1 c.2)
def edgSteps (row : List (Nat × Nat)) : List Stp := row.map fun p => Stp.edge p.1 p.2
def doSO (L : Nat → Nat) (bag : List Nat) (row : List (Nat × Nat)) (cs : List (List Nat × SO)) : SO := ((childSO L bag cs).1 ++ edgSteps row, (childSO L bag cs).2)
def wholeSO (L : Nat → Nat) (bag : List Nat) (x : SO) : SO := (x.1 ++ (byL L bag).map (fun v => Stp.forget (L v)), x.2)
end SWM


/-! Sorting and small lists. -/
namespace SWM
theorem leN_trans (a b c : Nat) (h : leN a b = true) (g : leN b c = true) : leN a c = true := by simp only [leN, decide_eq_true_eq] at *; omega
theorem leN_total (a b : Nat) : (leN a b || leN b a) = true := by simp only [leN, Bool.or_eq_true, decide_eq_true_eq]; omega
theorem leP_trans (a b c : Nat × Nat) (h : leP a b = true) (g : leP b c = true) : leP a c = true := by simp only [leP, decide_eq_true_eq] at *; omega
theorem leP_total (a b : Nat × Nat) : (leP a b || leP b a) = true := by simp only [leP, Bool.or_eq_true, decide_eq_true_eq]; omega
theorem srtN_perm (l : List Nat) : (srtN l).Perm l := List.mergeSort_perm _ _
theorem srtP_perm (l : List (Nat × Nat)) : (srtP l).Perm l := List.mergeSort_perm _ _
theorem mem_srtN {a : Nat} {l : List Nat} : a ∈ srtN l ↔ a ∈ l := (srtN_perm l).mem_iff
theorem mem_srtP {a : Nat × Nat} {l : List (Nat × Nat)} : a ∈ srtP l ↔ a ∈ l := (srtP_perm l).mem_iff
theorem srtN_le (l : List Nat) : (srtN l).Pairwise (· ≤ ·) := by
  have h := List.pairwise_mergeSort leN_trans leN_total l
  exact h.imp fun h => of_decide_eq_true h
theorem srtP_le (l : List (Nat × Nat)) : (srtP l).Pairwise (fun a b => leP a b = true) := List.pairwise_mergeSort leP_trans leP_total l
theorem srtN_uniq {l m : List Nat} (p : m.Perm l) (s : m.Pairwise (· ≤ ·)) : m = srtN l :=
  List.Perm.eq_of_pairwise (le := (· ≤ ·)) (fun a b _ _ h g => Nat.le_antisymm h g) s (srtN_le l) (p.trans (srtN_perm l).symm)
theorem srtN_congr {l m : List Nat} (p : m.Perm l) : srtN m = srtN l := srtN_uniq ((srtN_perm m).trans p) (srtN_le m)
theorem leP_anti {a b : Nat × Nat} (h : leP a b = true) (g : leP b a = true) : a = b := by
  simp only [leP, decide_eq_true_eq] at *
  exact Prod.ext (by omega) (by omega)
theorem srtP_uniq {l m : List (Nat × Nat)} (p : m.Perm l) (s : m.Pairwise (fun a b => leP a b = true)) : m = srtP l :=
  List.Perm.eq_of_pairwise (fun a b _ _ h g => leP_anti h g) s (srtP_le l) (p.trans (srtP_perm l).symm)
theorem srtP_congr {l m : List (Nat × Nat)} (p : m.Perm l) : srtP m = srtP l := srtP_uniq ((srtP_perm m).trans p) (srtP_le m)
theorem srtP_idem (l : List (Nat × Nat)) : srtP (srtP l) = srtP l := srtP_congr (srtP_perm l)
theorem srtN_nodup {l : List Nat} (h : l.Nodup) : (srtN l).Nodup := (srtN_perm l).nodup_iff.mpr h
theorem srtN_lt {l : List Nat} (h : l.Nodup) : (srtN l).Pairwise (· < ·) := by
  have a := srtN_le l
  have b := srtN_nodup h
  exact (List.pairwise_and_iff.mpr ⟨a, b⟩).imp fun ⟨x, y⟩ => Nat.lt_of_le_of_ne x y
theorem srtN_len (l : List Nat) : (srtN l).length = l.length := (srtN_perm l).length_eq
theorem nodup_of_lt {l : List Nat} (h : l.Pairwise (· < ·)) : l.Nodup := h.imp fun h => Nat.ne_of_lt h
/-- two ascending lists of the same members are one -/
theorem lt_ext {l m : List Nat} (h : l.Pairwise (· < ·)) (g : m.Pairwise (· < ·)) (e : ∀ x, x ∈ l ↔ x ∈ m) : l = m :=
  List.Perm.eq_of_pairwise (le := (· < ·)) (fun a b _ _ x y => absurd x (Nat.lt_asymm y)) h g ((List.perm_ext_iff_of_nodup (nodup_of_lt h) (nodup_of_lt g)).mpr e)
theorem range_lt (n : Nat) : (List.range n).Pairwise (· < ·) := List.pairwise_lt_range
theorem nodup_map_inj {α β : Type} {f : α → β} {l : List α} (h : l.Nodup) (g : ∀ a ∈ l, ∀ b ∈ l, f a = f b → a = b) : (l.map f).Nodup := by
  induction l with
  | nil => simp
  | cons a r ih =>
    obtain ⟨h1, h2⟩ := List.nodup_cons.mp h
    rw [List.map_cons, List.nodup_cons]
    refine ⟨fun m => ?_, ih h2 fun x hx y hy => g x (List.mem_cons_of_mem _ hx) y (List.mem_cons_of_mem _ hy)⟩
    obtain ⟨b, hb, e⟩ := List.mem_map.mp m
    have := g b (List.mem_cons_of_mem _ hb) a List.mem_cons_self e
    exact h1 (this ▸ hb)
theorem inj_of_nodup_map {α β : Type} {f : α → β} {l : List α} (h : (l.map f).Nodup) : ∀ a ∈ l, ∀ b ∈ l, f a = f b → a = b := by
  induction l with
  | nil => simp
  | cons a r ih =>
    rw [List.map_cons, List.nodup_cons] at h
    intro x hx y hy e
    rcases List.mem_cons.mp hx with ex | hx <;> rcases List.mem_cons.mp hy with ey | hy
    · rw [ex, ey]
    · exact absurd (List.mem_map.mpr ⟨y, hy, by rw [← e, ex]⟩) h.1
    · exact absurd (List.mem_map.mpr ⟨x, hx, by rw [e, ey]⟩) h.1
    · exact ih h.2 x hx y hy e
theorem nodup_of_map {α β : Type} {f : α → β} {l : List α} (h : (l.map f).Nodup) : l.Nodup := by
  rw [List.Nodup, List.pairwise_map] at h
  exact h.imp fun h e => h (congrArg f e)
/-- the index is the same under an injective map -/
theorem idxOf_map {f : Nat → Nat} : ∀ {l : List Nat} {a : Nat}, a ∈ l → (∀ x ∈ l, ∀ y ∈ l, f x = f y → x = y) → (l.map f).idxOf (f a) = l.idxOf a
  | [], a, h, _ => by simp at h
  | b :: r, a, h, g => by
    rw [List.map_cons, List.idxOf_cons, List.idxOf_cons]
    by_cases e : b = a
    · subst e; simp
    · have e' : ¬ f b = f a := fun q => e (g b List.mem_cons_self a h q)
      have hr : a ∈ r := (List.mem_cons.mp h).resolve_left fun z => e z.symm
      rw [idxOf_map hr fun x hx y hy => g x (List.mem_cons_of_mem _ hx) y (List.mem_cons_of_mem _ hy)]
      simp [beq_eq_false_iff_ne.mpr e, beq_eq_false_iff_ne.mpr e']
/-! ### unordered pairs -/
theorem sp_le (p : Nat × Nat) : (sp p).1 ≤ (sp p).2 := by unfold sp; split <;> (try dsimp only) <;> omega
theorem sp_lt {p : Nat × Nat} (h : p.1 ≠ p.2) : (sp p).1 < (sp p).2 := by unfold sp; split <;> (try dsimp only) <;> omega
theorem sp_swap (a b : Nat) : sp (a, b) = sp (b, a) := by
  unfold sp
  by_cases h : a ≤ b <;> by_cases g : b ≤ a <;> simp [h, g]
  · omega
  · omega
theorem sp_of_le {p : Nat × Nat} (h : p.1 ≤ p.2) : sp p = p := by unfold sp; rw [if_pos h]
theorem sp_eq {p q : Nat × Nat} : sp p = sp q ↔ p = q ∨ (p.1 = q.2 ∧ p.2 = q.1) := by
  obtain ⟨a, b⟩ := p
  obtain ⟨c, d⟩ := q
  unfold sp
  by_cases h : a ≤ b <;> by_cases g : c ≤ d <;> simp [h, g] <;> omega
theorem sp_cases (p : Nat × Nat) : sp p = p ∨ sp p = (p.2, p.1) := by unfold sp; split <;> simp
theorem sp_map (f : Nat → Nat) (p : Nat × Nat) : sp (f (sp p).1, f (sp p).2) = sp (f p.1, f p.2) := by
  rcases sp_cases p with h | h
  · rw [h]
  · rw [h]; exact sp_swap _ _
/-! ### dicts -/
theorem lk_put (m : List (Nat × Nat)) (k v x : Nat) : lk (put m k v) x = if k = x then some v else lk m x := by
  induction m with
  | nil => simp [put, lk]
  | cons p r ih =>
    unfold put
    by_cases h : p.1 = k
    · rw [if_pos h]
      simp only [lk]
      subst h
      by_cases e : p.1 = x <;> simp [e]
    · rw [if_neg h]
      simp only [lk]
      rw [ih]
      by_cases e : p.1 = x
      · subst e; simp [h]; intro q; exact absurd q.symm h
      · simp [e]
theorem lk_mem {m : List (Nat × Nat)} {k v : Nat} (h : lk m k = some v) : (k, v) ∈ m := by
  induction m with
  | nil => simp [lk] at h
  | cons p r ih =>
    unfold lk at h
    split at h
    · rename_i e
      cases h
      rw [← e]
      exact List.mem_cons_self
    · exact List.mem_cons_of_mem _ (ih h)
theorem lk_of_mem {m : List (Nat × Nat)} (nd : (m.map (·.1)).Nodup) {k v : Nat} (h : (k, v) ∈ m) : lk m k = some v := by
  induction m with
  | nil => simp at h
  | cons p r ih =>
    rw [List.map_cons, List.nodup_cons] at nd
    unfold lk
    rcases List.mem_cons.mp h with rfl | h
    · simp
    · rw [if_neg fun e => nd.1 (List.mem_map.mpr ⟨_, h, e.symm⟩)]
      exact ih nd.2 h
theorem lk_none {m : List (Nat × Nat)} {k : Nat} : lk m k = none ↔ ¬ k ∈ m.map (·.1) := by
  induction m with
  | nil => simp [lk]
  | cons p r ih =>
    unfold lk
    by_cases e : p.1 = k
    · simp [e]
    · rw [if_neg e, ih]; simp; omega
theorem lk_append (m n : List (Nat × Nat)) (k : Nat) : lk (m ++ n) k = (lk m k).or (lk n k) := by
  induction m with
  | nil => simp [lk]
  | cons p r ih => simp only [List.cons_append, lk]; split <;> simp [ih]
theorem put_new {m : List (Nat × Nat)} {k v : Nat} (h : ¬ k ∈ m.map (·.1)) : put m k v = m ++ [(k, v)] := by
  induction m with
  | nil => rfl
  | cons p r ih =>
    simp only [List.map_cons, List.mem_cons, not_or] at h
    unfold put
    rw [if_neg fun e => h.1 e.symm, ih h.2]
    rfl
theorem lkD_of {m : List (Nat × Nat)} {k v : Nat} (h : lk m k = some v) : lkD m k = v := by unfold lkD; rw [h]; rfl
end SWM


/-! Terms are trees. -/
namespace SWM
inductive Tr where
  | empty | new (i : Nat) (t : Tr) | edge (i j : Nat) (t : Tr) | forget (i : Nat) (t : Tr) | join (t u : Tr)
def post : Tr → List Stp
  | .empty => [.empty]
  | .new i t => post t ++ [.new i]
  | .edge i j t => post t ++ [.edge i j]
  | .forget i t => post t ++ [.forget i]
  | .join t u => post t ++ (post u ++ [.join])
def frT : Tr → Option Frm
  | .empty => some ([], [])
  | .new i t => (frT t).bind fun f => nextF (.new i) [f]
  | .edge i j t => (frT t).bind fun f => nextF (.edge i j) [f]
  | .forget i t => (frT t).bind fun f => nextF (.forget i) [f]
  | .join t u => (frT t).bind fun f => (frT u).bind fun g => nextF .join [f, g]
theorem runF_append (a b : List Stp) (st : List Frm) : runF (a ++ b) st = (runF a st).bind (runF b) := by
  induction a generalizing st with
  | nil => rfl
  | cons s r ih =>
    simp only [List.cons_append, runF]
    cases stepF s st with
    | none => rfl
    | some st' => exact ih st'
theorem stepF_one {s : Stp} (h : ar s = 1) (S : List Frm) (f : Frm) : stepF s (S ++ [f]) = (nextF s [f]).map fun g => S ++ [g] := by
  unfold stepF
  rw [h]
  simp
theorem stepF_join (S : List Frm) (f g : Frm) : stepF .join (S ++ [f, g]) = (nextF .join [f, g]).map fun h => S ++ [h] := by
  unfold stepF
  simp [ar]
  intro h
  omega
theorem stepF_empty (S : List Frm) : stepF .empty S = some (S ++ [([], [])]) := by
  unfold stepF
  simp [ar, nextF]
theorem runF_one (s : Stp) (st : List Frm) : runF [s] st = stepF s st := by
  simp only [runF]
  cases stepF s st <;> rfl
theorem runF_post : ∀ {t : Tr} {f : Frm}, frT t = some f → ∀ S, runF (post t) S = some (S ++ [f])
  | .empty, f, h, S => by
    cases h
    simp only [post, runF_one, stepF_empty]
  | .new i t, f, h, S => by
    obtain ⟨g, h1, h2⟩ := Option.bind_eq_some_iff.mp h
    simp only [post, runF_append, runF_post h1 S, Option.bind_some, runF_one, stepF_one (s := .new i) rfl, h2, Option.map_some]
  | .edge i j t, f, h, S => by
    obtain ⟨g, h1, h2⟩ := Option.bind_eq_some_iff.mp h
    simp only [post, runF_append, runF_post h1 S, Option.bind_some, runF_one, stepF_one (s := .edge i j) rfl, h2, Option.map_some]
  | .forget i t, f, h, S => by
    obtain ⟨g, h1, h2⟩ := Option.bind_eq_some_iff.mp h
    simp only [post, runF_append, runF_post h1 S, Option.bind_some, runF_one, stepF_one (s := .forget i) rfl, h2, Option.map_some]
  | .join t u, f, h, S => by
    obtain ⟨g, h1, h2⟩ := Option.bind_eq_some_iff.mp h
    obtain ⟨g', h3, h4⟩ := Option.bind_eq_some_iff.mp h2
    have e : S ++ [g] ++ [g'] = S ++ [g, g'] := by simp
    simp only [post, runF_append, runF_post h1 S, Option.bind_some, runF_post h3, runF_one, e, stepF_join, h4, Option.map_some]
theorem snoc_of_pos {α : Type} {l : List α} (h : 1 ≤ l.length) : ∃ r a, l = r ++ [a] := by
  rcases List.eq_nil_or_concat l with e | ⟨r, a, e⟩
  · subst e; simp at h
  · exact ⟨r, a, by simpa using e⟩
/-- what a step does to the stack -/
theorem stepF_cases {s : Stp} {st st' : List Frm} (h : stepF s st = some st') :
    (ar s = 0 ∧ s = .empty ∧ st' = st ++ [([], [])]) ∨ (ar s = 1 ∧ ∃ S f g, st = S ++ [f] ∧ nextF s [f] = some g ∧ st' = S ++ [g]) ∨ (s = .join ∧ ∃ S f g k, st = S ++ [f, g] ∧ nextF .join [f, g] = some k ∧ st' = S ++ [k]) := by
  have hl : ¬ st.length < ar s := fun q => by
    unfold stepF at h
    rw [if_pos q] at h
    cases h
  have one : ar s = 1 → ∃ S f g, st = S ++ [f] ∧ nextF s [f] = some g ∧ st' = S ++ [g] := fun e => by
    obtain ⟨S, f, rfl⟩ := snoc_of_pos (l := st) (by omega)
    rw [stepF_one e] at h
    obtain ⟨g, h1, h2⟩ := Option.map_eq_some_iff.mp h
    exact ⟨S, f, g, rfl, h1, h2.symm⟩
  cases s with
  | empty =>
    rw [stepF_empty] at h
    cases h
    exact .inl ⟨rfl, rfl, rfl⟩
  | new i => exact .inr (.inl ⟨rfl, one rfl⟩)
  | edge i j => exact .inr (.inl ⟨rfl, one rfl⟩)
  | forget i => exact .inr (.inl ⟨rfl, one rfl⟩)
  | join =>
    simp only [ar] at hl
    obtain ⟨S1, g, rfl⟩ := snoc_of_pos (l := st) (by omega)
    simp only [List.length_append, List.length_singleton] at hl
    obtain ⟨S, f, rfl⟩ := snoc_of_pos (l := S1) (by omega)
    have e : S ++ [f] ++ [g] = S ++ [f, g] := by simp
    rw [e, stepF_join] at h
    obtain ⟨k, h1, h2⟩ := Option.map_eq_some_iff.mp h
    exact .inr (.inr ⟨rfl, S, f, g, k, e, h1, h2.symm⟩)
theorem map_snoc {α β : Type} {f : α → β} {l : List α} {r : List β} {b : β} (h : l.map f = r ++ [b]) : ∃ m a, l = m ++ [a] ∧ m.map f = r ∧ f a = b := by
  obtain ⟨m, x, rfl⟩ := snoc_of_pos (l := l) (by have := congrArg List.length h; simp at this; omega)
  simp only [List.map_append, List.map_cons, List.map_nil] at h
  obtain ⟨h1, h2⟩ := List.append_inj' h rfl
  exact ⟨m, x, rfl, h1, by simpa using h2⟩
theorem parse : ∀ (T : List Stp) {st st' : List Frm} {ts : List Tr}, ts.map frT = st.map some → runF T st = some st' →
    ∃ ts' : List Tr, (ts'.map post).flatten = (ts.map post).flatten ++ T ∧ ts'.map frT = st'.map some
  | [], st, st', ts, h, r => by
    cases r
    exact ⟨ts, by simp, h⟩
  | s :: T, st, st', ts, h, r => by
    simp only [runF] at r
    cases e : stepF s st with
    | none => rw [e] at r; cases r
    | some st1 =>
      rw [e] at r
      have key : ∃ ts1 : List Tr, (ts1.map post).flatten = (ts.map post).flatten ++ [s] ∧ ts1.map frT = st1.map some := by
        rcases stepF_cases e with ⟨_, rfl, rfl⟩ | ⟨e1, S, f, g, rfl, hn, rfl⟩ | ⟨rfl, S, f, g, k, rfl, hn, rfl⟩
        · exact ⟨ts ++ [.empty], by simp [post], by simp [h, frT]⟩
        · rw [List.map_append] at h
          obtain ⟨m, t, rfl, h1, h2⟩ := map_snoc h
          have mk : ∀ u : Tr, post u = post t ++ [s] → frT u = some g → ∃ ts1 : List Tr, (ts1.map post).flatten = ((m ++ [t]).map post).flatten ++ [s] ∧ ts1.map frT = (S ++ [g]).map some := fun u hu hf =>
            ⟨m ++ [u], by simp [hu], by simp [h1, hf]⟩
          cases s with
          | empty => cases e1
          | new i => exact mk (.new i t) rfl (by simp only [frT, h2, Option.bind_some, hn])
          | edge i j => exact mk (.edge i j t) rfl (by simp only [frT, h2, Option.bind_some, hn])
          | forget i => exact mk (.forget i t) rfl (by simp only [frT, h2, Option.bind_some, hn])
          | join => cases e1
        · have e : (S ++ [f, g]).map some = (S ++ [f]).map some ++ [some g] := by simp
          rw [e] at h
          obtain ⟨m1, u, rfl, h1, h2⟩ := map_snoc h
          rw [List.map_append] at h1
          obtain ⟨m, t, rfl, h3, h4⟩ := map_snoc h1
          exact ⟨m ++ [.join t u], by simp [post], by simp only [List.map_append, h3, List.map_cons, List.map_nil, frT, h2, h4, Option.bind_some, hn]⟩
      obtain ⟨ts1, k1, k2⟩ := key
      obtain ⟨ts2, k3, k4⟩ := parse T k2 r
      exact ⟨ts2, by rw [k3, k1]; simp, k4⟩
/-- a term is a tree -/
theorem IsTerm.tree {T : List Stp} {k : Nat} {f : Frm} (h : IsTerm T k f) : ∃ t, post t = T ∧ frT t = some f := by
  obtain ⟨ts, h1, h2⟩ := parse T (st := []) (ts := []) rfl h.run
  obtain ⟨m, t, rfl, hm, ht⟩ := map_snoc (r := []) (b := some f) (by simpa using h2)
  obtain rfl : m = [] := List.map_eq_nil_iff.mp hm
  exact ⟨t, by simpa using h1, ht⟩
/-! ### labels -/
def GoodF (k : Nat) (f : Frm) : Prop := f.1.Pairwise (· < ·) ∧ ∀ x ∈ f.1, x ≤ k
theorem goodF_next {k : Nat} {s : Stp} {fs : List Frm} {g : Frm} (ok : okStp k s) (h : ∀ f ∈ fs, GoodF k f) (e : nextF s fs = some g) : GoodF k g := by
  cases s with
  | empty =>
    cases e
    exact ⟨.nil, by simp⟩
  | new i =>
    match fs, e with
    | f :: _, e =>
      simp only [nextF] at e
      split at e
      · cases e
      · rename_i hi
        cases e
        obtain ⟨h1, h2⟩ := h f List.mem_cons_self
        refine ⟨srtN_lt ?_, fun x hx => ?_⟩
        · rw [List.nodup_append]
          exact ⟨nodup_of_lt h1, by simp, fun a ha b hb e => hi (by simp at hb; rw [← hb, ← e]; exact ha)⟩
        · rcases List.mem_append.mp (mem_srtN.mp hx) with q | q
          · exact h2 x q
          · simp at q; rw [q]; exact ok
  | forget i =>
    match fs, e with
    | f :: _, e =>
      simp only [nextF] at e
      split at e
      · cases e
        obtain ⟨h1, h2⟩ := h f List.mem_cons_self
        exact ⟨h1.filter _, fun x hx => h2 x (List.mem_filter.mp hx).1⟩
      · cases e
  | edge i j =>
    match fs, e with
    | f :: _, e =>
      simp only [nextF] at e
      split at e
      · cases e
        exact h f List.mem_cons_self
      · cases e
  | join =>
    match fs, e with
    | f :: g :: _, e =>
      simp only [nextF] at e
      split at e
      · cases e
        exact h f List.mem_cons_self
      · cases e
theorem goodF_frs {k : Nat} : ∀ (T : List Stp) {st : List Frm}, (∀ s ∈ T, okStp k s) → (∀ f ∈ st, GoodF k f) → ∀ f ∈ frs T st, GoodF k f
  | [], _, _, _, f, hf => by simp [frs] at hf
  | s :: T, st, ok, h, f, hf => by
    simp only [frs] at hf
    cases e : stepF s st with
    | none => rw [e] at hf; simp at hf
    | some st1 =>
      rw [e] at hf
      have h1 : ∀ f ∈ st1, GoodF k f := by
        have os := ok s List.mem_cons_self
        rcases stepF_cases e with ⟨_, rfl, rfl⟩ | ⟨e1, S, f, g, rfl, hn, rfl⟩ | ⟨rfl, S, f, g, k', rfl, hn, rfl⟩
        · intro f hf
          rcases List.mem_append.mp hf with q | q
          · exact h f q
          · simp at q; subst q; exact ⟨.nil, by simp⟩
        · intro x hx
          rcases List.mem_append.mp hx with q | q
          · exact h x (List.mem_append_left _ q)
          · simp at q; subst q; exact goodF_next os (fun y hy => h y (List.mem_append_right _ hy)) hn
        · intro x hx
          rcases List.mem_append.mp hx with q | q
          · exact h x (List.mem_append_left _ q)
          · simp at q; subst q; exact goodF_next os (fun y hy => h y (List.mem_append_right _ hy)) hn
      rcases List.mem_cons.mp hf with q | q
      · subst q
        have : st1 ≠ [] := by
          rcases stepF_cases e with ⟨_, _, rfl⟩ | ⟨_, _, _, _, _, _, rfl⟩ | ⟨_, _, _, _, _, _, _, rfl⟩ <;> simp
        rw [List.getLastD_eq_getLast?, List.getLast?_eq_some_getLast this]
        exact h1 _ (List.getLast_mem this)
      · exact goodF_frs T (fun s hs => ok s (List.mem_cons_of_mem _ hs)) h1 f q
theorem GoodF.len {k : Nat} {f : Frm} (h : GoodF k f) : f.1.length ≤ k + 1 := by
  have := List.Nodup.length_le_of_subset (nodup_of_lt h.1) (l₂ := List.range (k + 1)) fun x hx => List.mem_range.mpr (by have := h.2 x hx; omega)
  simpa using this
theorem IsTerm.lens {T : List Stp} {k : Nat} {f : Frm} (h : IsTerm T k f) : ∀ g ∈ frs T [], g.1.length ≤ k + 1 := fun g hg => (goodF_frs T h.ok (by simp) g hg).len
theorem frT_good {k : Nat} : ∀ {t : Tr} {f : Frm}, (∀ s ∈ post t, okStp k s) → frT t = some f → GoodF k f
  | .empty, f, _, h => by cases h; exact ⟨.nil, by simp⟩
  | .new i t, f, ok, h => by
    obtain ⟨g, h1, h2⟩ := Option.bind_eq_some_iff.mp h
    exact goodF_next (ok _ (by simp [post])) (by simpa using frT_good (fun s hs => ok s (by simp [post, hs])) h1) h2
  | .edge i j t, f, ok, h => by
    obtain ⟨g, h1, h2⟩ := Option.bind_eq_some_iff.mp h
    exact goodF_next (ok _ (by simp [post])) (by simpa using frT_good (fun s hs => ok s (by simp [post, hs])) h1) h2
  | .forget i t, f, ok, h => by
    obtain ⟨g, h1, h2⟩ := Option.bind_eq_some_iff.mp h
    exact goodF_next (ok _ (by simp [post])) (by simpa using frT_good (fun s hs => ok s (by simp [post, hs])) h1) h2
  | .join t u, f, ok, h => by
    obtain ⟨g, h1, h2⟩ := Option.bind_eq_some_iff.mp h
    obtain ⟨g', h3, h4⟩ := Option.bind_eq_some_iff.mp h2
    refine goodF_next (ok .join (by simp [post])) (fun x hx => ?_) h4
    simp at hx
    rcases hx with rfl | rfl
    · exact frT_good (fun s hs => ok s (by simp [post, hs])) h1
    · exact frT_good (fun s hs => ok s (by simp [post, hs])) h3
end SWM


/-! The building of a term, along its tree. -/
namespace SWM
structure Rs where
  src : List (Nat × Nat)
  ord : List Nat
  tok : Nat
  bec : List (Nat × Nat)
  eds : List (Nat × Nat)
  shw : List (List Nat)
def ev : Tr → Nat → Rs
  | .empty, n => ⟨[], [], n, [], [], [[]]⟩
  | .new i t, n => ⟨put (ev t n).src i (ev t n).tok, (ev t n).ord ++ [(ev t n).tok], (ev t n).tok + 1, (ev t n).bec, (ev t n).eds, (ev t n).shw ++ [shown (put (ev t n).src i (ev t n).tok)]⟩
  | .edge i j t, n => ⟨(ev t n).src, (ev t n).ord, (ev t n).tok, (ev t n).bec, (ev t n).eds ++ [(lkD (ev t n).src i, lkD (ev t n).src j)], (ev t n).shw ++ [shown (ev t n).src]⟩
  | .forget i t, n => ⟨del (ev t n).src i, (ev t n).ord, (ev t n).tok, (ev t n).bec, (ev t n).eds, (ev t n).shw ++ [shown (ev t n).src]⟩
  | .join t u, n => ⟨(ev t n).src, (ev t n).ord ++ restO (ev u (ev t n).tok).src (ev u (ev t n).tok).ord, (ev u (ev t n).tok).tok,
      (ev t n).bec ++ ((ev u (ev t n).tok).bec ++ (ev u (ev t n).tok).src.map fun p => (p.2, lkD (ev t n).src p.1)), (ev t n).eds ++ (ev u (ev t n).tok).eds,
      (ev t n).shw ++ ((ev u (ev t n).tok).shw ++ [shown (ev t n).src])⟩
def puts (m l : List (Nat × Nat)) : List (Nat × Nat) := l.foldl (fun m p => put m p.1 p.2) m
theorem puts_append (m a b : List (Nat × Nat)) : puts m (a ++ b) = puts (puts m a) b := List.foldl_append
theorem joinB_eq (m lo up : List (Nat × Nat)) : joinB m lo up = puts m (up.map fun p => (p.2, lkD lo p.1)) := by
  unfold joinB puts
  rw [List.foldl_map]
theorem topG_snoc (b : Bd) (S : List Gr) (g : Gr) (h : b.stk = S ++ [g]) : topG b = g := by unfold topG; rw [h, List.getLastD_concat]
theorem bld_post : ∀ (t : Tr) (b : Bd), (post t).foldl takeB b = ⟨b.stk ++ [((ev t b.tok).src, (ev t b.tok).ord)], puts b.bec (ev t b.tok).bec, b.eds ++ (ev t b.tok).eds, (ev t b.tok).tok, b.shw ++ (ev t b.tok).shw⟩
  | .empty, b => by simp [post, takeB, ev, puts]
  | .new i t, b => by
    rw [post, List.foldl_append, bld_post t b]
    simp [takeB, ev, topG]
  | .edge i j t, b => by
    rw [post, List.foldl_append, bld_post t b]
    simp [takeB, ev, topG]
  | .forget i t, b => by
    rw [post, List.foldl_append, bld_post t b]
    simp [takeB, ev, topG]
  | .join t u, b => by
    rw [post, List.foldl_append, bld_post t b, List.foldl_append, bld_post u]
    simp only [List.foldl_cons, List.foldl_nil, takeB, ev, topG, sndG, joinG, joinB_eq, puts_append, List.getLastD_concat, List.dropLast_concat]
    simp only [List.append_assoc]
theorem bld_eq (t : Tr) : bld (post t) = ⟨[((ev t 0).src, (ev t 0).ord)], puts [] (ev t 0).bec, (ev t 0).eds, (ev t 0).tok, (ev t 0).shw⟩ := by
  unfold bld
  rw [bld_post]
  simp [Bd.start]
/-- the tokens of a tree's run -/
structure TokOk (n : Nat) (f : Frm) (r : Rs) : Prop where
  le : n ≤ r.tok
  keys : ∀ l, l ∈ r.src.map (·.1) ↔ l ∈ f.1
  kn : (r.src.map (·.1)).Nodup
  vn : (r.src.map (·.2)).Nodup
  so : ∀ p ∈ r.src, p.2 ∈ r.ord
  ord : ∀ x ∈ r.ord, n ≤ x ∧ x < r.tok
  on : r.ord.Nodup
  bec : ∀ p ∈ r.bec, n ≤ p.2 ∧ p.2 < p.1 ∧ p.1 < r.tok ∧ ¬ p.1 ∈ r.ord
  bn : (r.bec.map (·.1)).Nodup
  all : ∀ x, n ≤ x → x < r.tok → x ∈ r.ord ∨ x ∈ r.bec.map (·.1)
  eds : ∀ p ∈ r.eds, (n ≤ p.1 ∧ p.1 < r.tok) ∧ (n ≤ p.2 ∧ p.2 < r.tok)
theorem lkD_mem {m : List (Nat × Nat)} {k : Nat} (h : k ∈ m.map (·.1)) : (k, lkD m k) ∈ m := by
  cases e : lk m k with
  | none => exact absurd h (lk_none.mp e)
  | some v => rw [lkD_of e]; exact lk_mem e
theorem nodup_fst_append {m n : List (Nat × Nat)} (h : (m.map (·.1)).Nodup) (g : (n.map (·.1)).Nodup) (d : ∀ p ∈ m, ∀ q ∈ n, p.1 ≠ q.1) : ((m ++ n).map (·.1)).Nodup := by
  rw [List.map_append, List.nodup_append]
  refine ⟨h, g, fun a ha b hb => ?_⟩
  obtain ⟨p, hp, rfl⟩ := List.mem_map.mp ha
  obtain ⟨q, hq, rfl⟩ := List.mem_map.mp hb
  exact d p hp q hq
theorem mem_restO {src : List (Nat × Nat)} {o : List Nat} {x : Nat} : x ∈ restO src o ↔ x ∈ o ∧ ¬ x ∈ src.map (·.2) := by
  unfold restO
  rw [List.mem_filter]
  simp
theorem tokOk : ∀ {t : Tr} {f : Frm} (n : Nat), frT t = some f → TokOk n f (ev t n)
  | .empty, f, n, h => by
    cases h
    exact ⟨Nat.le_refl _, by simp [ev], by simp [ev], by simp [ev], by simp [ev], by simp [ev], by simp [ev], by simp [ev], by simp [ev], fun x h1 h2 => by simp [ev] at h2; omega, by simp [ev]⟩
  | .new i t, f, n, h => by
    obtain ⟨g, h1, h2⟩ := Option.bind_eq_some_iff.mp h
    have T := tokOk n h1
    simp only [nextF] at h2
    split at h2
    · cases h2
    rename_i hi
    cases h2
    have ni : ¬ i ∈ (ev t n).src.map (·.1) := fun q => hi ((T.keys i).mp q)
    have ot : ¬ (ev t n).tok ∈ (ev t n).ord := fun q => Nat.lt_irrefl _ (T.ord _ q).2
    have le := T.le
    have en : ev (.new i t) n = ⟨(ev t n).src ++ [(i, (ev t n).tok)], (ev t n).ord ++ [(ev t n).tok], (ev t n).tok + 1, (ev t n).bec, (ev t n).eds, (ev t n).shw ++ [shown (put (ev t n).src i (ev t n).tok)]⟩ := by
      simp only [ev, put_new ni]
    rw [en]
    refine ⟨by dsimp only; omega, fun l => ?_, ?_, ?_, ?_, ?_, ?_, ?_, T.bn, ?_, ?_⟩
    · dsimp only
      rw [List.map_append, List.mem_append, T.keys, mem_srtN, List.mem_append]
      simp
    · dsimp only
      exact nodup_fst_append T.kn (by simp) fun p hp q hq => by simp at hq; subst hq; exact fun e => ni (List.mem_map.mpr ⟨p, hp, e⟩)
    · dsimp only
      rw [List.map_append, List.nodup_append]
      refine ⟨T.vn, by simp, fun a ha b hb e => ?_⟩
      obtain ⟨p, hp, rfl⟩ := List.mem_map.mp ha
      simp at hb
      exact ot (by rw [← hb, ← e]; exact T.so p hp)
    · dsimp only
      intro p hp
      rcases List.mem_append.mp hp with q | q
      · exact List.mem_append_left _ (T.so p q)
      · simp at q; subst q; simp
    · dsimp only
      intro x hx
      rcases List.mem_append.mp hx with q | q
      · have := T.ord x q; omega
      · simp at q; omega
    · dsimp only
      rw [List.nodup_append]
      exact ⟨T.on, by simp, fun a ha b hb e => ot (by simp at hb; rw [← hb, ← e]; exact ha)⟩
    · dsimp only
      intro p hp
      obtain ⟨a, b, c, d⟩ := T.bec p hp
      refine ⟨a, b, by omega, fun q => ?_⟩
      rcases List.mem_append.mp q with q | q
      · exact d q
      · simp at q; omega
    · dsimp only
      intro x h1 h2
      by_cases e : x = (ev t n).tok
      · exact .inl (by simp [e])
      · rcases T.all x h1 (by omega) with q | q
        · exact .inl (List.mem_append_left _ q)
        · exact .inr q
    · dsimp only
      intro p hp
      have := T.eds p hp
      omega
  | .edge i j t, f, n, h => by
    obtain ⟨g, h1, h2⟩ := Option.bind_eq_some_iff.mp h
    have T := tokOk n h1
    simp only [nextF] at h2
    split at h2
    · rename_i hc
      cases h2
      refine ⟨T.le, T.keys, T.kn, T.vn, T.so, T.ord, T.on, T.bec, T.bn, T.all, fun p hp => ?_⟩
      simp only [ev] at hp ⊢
      rcases List.mem_append.mp hp with q | q
      · exact T.eds p q
      · simp at q
        subst q
        exact ⟨T.ord _ (T.so (i, lkD (ev t n).src i) (lkD_mem ((T.keys _).mpr hc.2.1))), T.ord _ (T.so (j, lkD (ev t n).src j) (lkD_mem ((T.keys _).mpr hc.2.2.1)))⟩
    · cases h2
  | .forget i t, f, n, h => by
    obtain ⟨g, h1, h2⟩ := Option.bind_eq_some_iff.mp h
    have T := tokOk n h1
    simp only [nextF] at h2
    split at h2
    · cases h2
      have sub : (del (ev t n).src i).Sublist (ev t n).src := List.filter_sublist
      refine ⟨T.le, fun l => ?_, T.kn.sublist (sub.map _), T.vn.sublist (sub.map _), fun p hp => T.so p (sub.subset hp), T.ord, T.on, T.bec, T.bn, T.all, T.eds⟩
      simp only [ev, del, List.mem_filter, decide_eq_true_eq]
      rw [← T.keys l]
      constructor
      · intro q
        obtain ⟨p, hp, rfl⟩ := List.mem_map.mp q
        obtain ⟨a, b⟩ := List.mem_filter.mp hp
        exact ⟨List.mem_map.mpr ⟨p, a, rfl⟩, by simpa using b⟩
      · rintro ⟨q, ne⟩
        obtain ⟨p, hp, rfl⟩ := List.mem_map.mp q
        exact List.mem_map.mpr ⟨p, List.mem_filter.mpr ⟨hp, by simpa using ne⟩, rfl⟩
    · cases h2
  | .join t u, f, n, h => by
    obtain ⟨g, h1, h2⟩ := Option.bind_eq_some_iff.mp h
    obtain ⟨g', h3, h4⟩ := Option.bind_eq_some_iff.mp h2
    have T := tokOk n h1
    have U := tokOk (ev t n).tok h3
    simp only [nextF] at h4
    split at h4
    · rename_i hc
      cases h4
      have le1 := T.le
      have le2 := U.le
      have up : ∀ p ∈ (ev u (ev t n).tok).src, lkD (ev t n).src p.1 ∈ (ev t n).ord := fun p hp =>
        T.so _ (lkD_mem ((T.keys _).mpr (by rw [← hc.1]; exact (U.keys _).mp (List.mem_map.mpr ⟨p, hp, rfl⟩))))
      have nU : ∀ x ∈ (ev u (ev t n).tok).ord, ¬ x ∈ (ev t n).ord := fun x hx q => by have := T.ord x q; have := U.ord x hx; omega
      refine ⟨by simp only [ev]; omega, T.keys, T.kn, T.vn, fun p hp => List.mem_append_left _ (T.so p hp), fun x hx => ?_, ?_, fun p hp => ?_, ?_, fun x hx1 hx2 => ?_, fun p hp => ?_⟩
      · simp only [ev] at hx ⊢
        rcases List.mem_append.mp hx with q | q
        · have := T.ord x q; omega
        · have := U.ord x (mem_restO.mp q).1; omega
      · simp only [ev]
        rw [List.nodup_append]
        exact ⟨T.on, U.on.sublist List.filter_sublist, fun a ha b hb e => nU b (mem_restO.mp hb).1 (by rw [← e]; exact ha)⟩
      · simp only [ev] at hp ⊢
        rcases List.mem_append.mp hp with q | q
        · obtain ⟨a, b, c, d⟩ := T.bec p q
          refine ⟨a, b, by omega, fun z => ?_⟩
          rcases List.mem_append.mp z with z | z
          · exact d z
          · have := U.ord _ (mem_restO.mp z).1; omega
        · rcases List.mem_append.mp q with q | q
          · obtain ⟨a, b, c, d⟩ := U.bec p q
            refine ⟨by omega, b, c, fun z => ?_⟩
            rcases List.mem_append.mp z with z | z
            · have := T.ord _ z; omega
            · exact d (mem_restO.mp z).1
          · obtain ⟨s, hs, rfl⟩ := List.mem_map.mp q
            have a1 := T.ord _ (up s hs)
            have a2 := U.ord _ (U.so s hs)
            refine ⟨a1.1, by dsimp only; omega, a2.2, fun z => ?_⟩
            rcases List.mem_append.mp z with z | z
            · exact nU _ (U.so s hs) z
            · exact (mem_restO.mp z).2 (List.mem_map.mpr ⟨s, hs, rfl⟩)
      · simp only [ev]
        refine nodup_fst_append T.bn (nodup_fst_append U.bn ?_ fun p hp q hq e => ?_) fun p hp q hq e => ?_
        · rw [List.map_map]; exact U.vn
        · obtain ⟨s, hs, rfl⟩ := List.mem_map.mp hq
          have e : p.1 = s.2 := e
          exact (U.bec p hp).2.2.2 (by rw [e]; exact U.so s hs)
        · have a := T.bec p hp
          rcases List.mem_append.mp hq with z | z
          · have b := U.bec q z; omega
          · obtain ⟨s, hs, rfl⟩ := List.mem_map.mp z
            have e : p.1 = s.2 := e
            have b := U.ord _ (U.so s hs); omega
      · simp only [ev] at hx2 ⊢
        by_cases q : x < (ev t n).tok
        · rcases T.all x hx1 q with z | z
          · exact .inl (List.mem_append_left _ z)
          · exact .inr (by rw [List.map_append]; exact List.mem_append_left _ z)
        · rcases U.all x (by omega) hx2 with z | z
          · by_cases m : x ∈ (ev u (ev t n).tok).src.map (·.2)
            · refine .inr ?_
              rw [List.map_append, List.map_append]
              refine List.mem_append_right _ (List.mem_append_right _ ?_)
              rw [List.map_map]
              exact m
            · exact .inl (List.mem_append_right _ (mem_restO.mpr ⟨z, m⟩))
          · refine .inr ?_
            rw [List.map_append, List.map_append]
            exact List.mem_append_right _ (List.mem_append_left _ z)
      · simp only [ev] at hp ⊢
        rcases List.mem_append.mp hp with q | q
        · have := T.eds p q; omega
        · have := U.eds p q; omega
    · cases h4
/-! ### following the tokens -/
theorem puts_nil_of : ∀ {l m : List (Nat × Nat)}, ((m ++ l).map (·.1)).Nodup → puts m l = m ++ l
  | [], m, _ => by simp [puts]
  | p :: r, m, h => by
    have h' : ((m ++ [(p.1, p.2)] ++ r).map (·.1)).Nodup := by simpa using h
    have ni : ¬ p.1 ∈ m.map (·.1) := fun q => by
      rw [List.map_append, List.nodup_append] at h
      exact h.2.2 _ q p.1 (by simp) rfl
    show puts (put m p.1 p.2) r = _
    rw [put_new ni, puts_nil_of h']
    simp
theorem resT_more {bec : List (Nat × Nat)} (d : ∀ a b, lk bec a = some b → b < a) : ∀ {n m t : Nat}, t < n → t < m → resT bec n t = resT bec m t
  | 0, _, _, h, _ => by omega
  | _, 0, _, _, h => by omega
  | n + 1, m + 1, t, h1, h2 => by
    unfold resT
    cases e : lk bec t with
    | none => rfl
    | some u =>
      have := d t u e
      exact resT_more d (by omega) (by omega)
theorem res_step {bec : List (Nat × Nat)} (d : ∀ a b, lk bec a = some b → b < a) {t u : Nat} (h : lk bec t = some u) : res bec t = res bec u := by
  have := d t u h
  unfold res
  show resT bec (t + 1) t = _
  rw [resT, h]
  exact resT_more d (by omega) (by omega)
theorem res_end {bec : List (Nat × Nat)} {t : Nat} (h : lk bec t = none) : res bec t = t := by
  unfold res
  rw [resT, h]
/-- following the tokens keeps what the map of entries keeps, and ends in the order -/
theorem res_in {n : Nat} {f : Frm} {r : Rs} (T : TokOk n f r) (φ : Nat → Nat) (hφ : ∀ p ∈ r.bec, φ p.1 = φ p.2) : ∀ m x, x ≤ m → n ≤ x → x < r.tok → res r.bec x ∈ r.ord ∧ φ (res r.bec x) = φ x
  | m, x, hm, h1, h2 => by
    have d : ∀ a b, lk r.bec a = some b → b < a := fun a b e => (T.bec _ (lk_mem e)).2.1
    rcases T.all x h1 h2 with q | q
    · have e : lk r.bec x = none := lk_none.mpr fun z => by
        obtain ⟨p, hp, rfl⟩ := List.mem_map.mp z
        exact (T.bec p hp).2.2.2 q
      rw [res_end e]
      exact ⟨q, rfl⟩
    · have hm' := lkD_mem q
      have e : lk r.bec x = some (lkD r.bec x) := lk_of_mem T.bn hm'
      have b := T.bec _ hm'
      rw [res_step d e]
      match m with
      | 0 => dsimp only at b; omega
      | m + 1 =>
        have ih := res_in T φ hφ m (lkD r.bec x) (by dsimp only at b; omega) b.1 (by dsimp only at b; omega)
        exact ⟨ih.1, ih.2.trans (hφ _ hm').symm⟩
end SWM


/-! What a tree means: labels' vertices, vertices in order, edges, the tree of bags. -/
namespace SWM
inductive BT where
  | leaf (b : List Nat) | one (b : List Nat) (c : BT) | two (b : List Nat) (c d : BT)
def BT.bag : BT → List Nat
  | .leaf b => b | .one b _ => b | .two b _ _ => b
def BT.pre : BT → List (List Nat)
  | .leaf b => [b] | .one b c => b :: c.pre | .two b c d => b :: (c.pre ++ d.pre)
def bagV (S : List (Nat × Nat)) : List Nat := srtN (S.map (·.2))
inductive I : Tr → List (Nat × Nat) → List Nat → List (Nat × Nat) → BT → Prop
  | empty : I .empty [] [] [] (.leaf [])
  | new {t S V E B i x} : I t S V E B → ¬ i ∈ S.map (·.1) → ¬ x ∈ V → I (.new i t) (S ++ [(i, x)]) (V ++ [x]) E (.one (bagV (S ++ [(i, x)])) B)
  | edge {t S V E B i j u v} : I t S V E B → i < j → (i, u) ∈ S → (j, v) ∈ S → (∀ e ∈ E, sp e ≠ sp (u, v)) → I (.edge i j t) S V (E ++ [(u, v)]) (.one (bagV S) B)
  | forget {t S V E B i} : I t S V E B → i ∈ S.map (·.1) → I (.forget i t) (del S i) V E (.one (bagV S) B)
  | join {t u S V E B S' V' E' B'} : I t S V E B → I u S' V' E' B' → (∀ p, p ∈ S ↔ p ∈ S') → (∀ x ∈ V, x ∈ V' → x ∈ S.map (·.2)) → (∀ e ∈ E, ∀ e' ∈ E', sp e ≠ sp e') →
      I (.join t u) S (V ++ restO S' V') (E ++ E') (.two (bagV S) B' B)
structure IOk (S : List (Nat × Nat)) (V : List Nat) (E : List (Nat × Nat)) : Prop where
  kn : (S.map (·.1)).Nodup
  vn : (S.map (·.2)).Nodup
  sv : ∀ p ∈ S, p.2 ∈ V
  on : V.Nodup
  ev : ∀ e ∈ E, e.1 ≠ e.2 ∧ e.1 ∈ V ∧ e.2 ∈ V
  en : (E.map sp).Nodup
theorem del_sub (S : List (Nat × Nat)) (i : Nat) : (del S i).Sublist S := List.filter_sublist
theorem mem_del {S : List (Nat × Nat)} {i : Nat} {p : Nat × Nat} : p ∈ del S i ↔ p ∈ S ∧ p.1 ≠ i := by
  unfold del
  rw [List.mem_filter]
  simp
theorem fst_inj {S : List (Nat × Nat)} (h : (S.map (·.1)).Nodup) {i u v : Nat} (a : (i, u) ∈ S) (b : (i, v) ∈ S) : u = v := by
  have := inj_of_nodup_map h _ a _ b rfl
  exact congrArg Prod.snd this
theorem snd_inj {S : List (Nat × Nat)} (h : (S.map (·.2)).Nodup) {i j u : Nat} (a : (i, u) ∈ S) (b : (j, u) ∈ S) : i = j := by
  have := inj_of_nodup_map h _ a _ b rfl
  exact congrArg Prod.fst this
theorem mem_snd {S : List (Nat × Nat)} {i x : Nat} (h : (i, x) ∈ S) : x ∈ S.map (·.2) := List.mem_map.mpr ⟨_, h, rfl⟩
theorem snd_iff {S S' : List (Nat × Nat)} (h : ∀ p, p ∈ S ↔ p ∈ S') (x : Nat) : x ∈ S.map (·.2) ↔ x ∈ S'.map (·.2) := by
  constructor <;> intro q <;> obtain ⟨p, hp, rfl⟩ := List.mem_map.mp q
  · exact List.mem_map.mpr ⟨p, (h p).mp hp, rfl⟩
  · exact List.mem_map.mpr ⟨p, (h p).mpr hp, rfl⟩
theorem fst_iff {S S' : List (Nat × Nat)} (h : ∀ p, p ∈ S ↔ p ∈ S') (x : Nat) : x ∈ S.map (·.1) ↔ x ∈ S'.map (·.1) := by
  constructor <;> intro q <;> obtain ⟨p, hp, rfl⟩ := List.mem_map.mp q
  · exact List.mem_map.mpr ⟨p, (h p).mp hp, rfl⟩
  · exact List.mem_map.mpr ⟨p, (h p).mpr hp, rfl⟩
theorem I.ok {t S V E B} (h : I t S V E B) : IOk S V E := by
  induction h with
  | empty => exact ⟨by simp, by simp, by simp, by simp, by simp, by simp⟩
  | @new t S V E B i x h hi hx ih =>
    refine ⟨nodup_fst_append ih.kn (by simp) fun p hp q hq e => ?_, ?_, fun p hp => ?_, ?_, fun e he => ?_, ih.en⟩
    · simp at hq; subst hq; exact hi (List.mem_map.mpr ⟨p, hp, e⟩)
    · rw [List.map_append, List.nodup_append]
      refine ⟨ih.vn, by simp, fun a ha b hb e => ?_⟩
      obtain ⟨p, hp, rfl⟩ := List.mem_map.mp ha
      simp at hb
      exact hx (by rw [← hb, ← e]; exact ih.sv p hp)
    · rcases List.mem_append.mp hp with q | q
      · exact List.mem_append_left _ (ih.sv p q)
      · simp at q; subst q; simp
    · rw [List.nodup_append]
      exact ⟨ih.on, by simp, fun a ha b hb e => hx (by simp at hb; rw [← hb, ← e]; exact ha)⟩
    · obtain ⟨a, b, c⟩ := ih.ev e he
      exact ⟨a, List.mem_append_left _ b, List.mem_append_left _ c⟩
  | @edge t S V E B i j u v h hij hu hv hn ih =>
    refine ⟨ih.kn, ih.vn, ih.sv, ih.on, fun e he => ?_, ?_⟩
    · rcases List.mem_append.mp he with q | q
      · exact ih.ev e q
      · simp at q; subst q
        exact ⟨fun z => by dsimp only at z; subst z; have := snd_inj ih.vn hu hv; omega, ih.sv (i, u) hu, ih.sv (j, v) hv⟩
    · rw [List.map_append, List.nodup_append]
      refine ⟨ih.en, by simp, fun a ha b hb e => ?_⟩
      obtain ⟨p, hp, rfl⟩ := List.mem_map.mp ha
      simp at hb
      exact hn p hp (by rw [e, hb])
  | @forget t S V E B i h hi ih =>
    have s := del_sub S i
    exact ⟨ih.kn.sublist (s.map _), ih.vn.sublist (s.map _), fun p hp => ih.sv p (s.subset hp), ih.on, ih.ev, ih.en⟩
  | @join t u S V E B S' V' E' B' h h' hS hV hE ih ih' =>
    refine ⟨ih.kn, ih.vn, fun p hp => List.mem_append_left _ (ih.sv p hp), ?_, fun e he => ?_, ?_⟩
    · rw [List.nodup_append]
      refine ⟨ih.on, ih'.on.sublist List.filter_sublist, fun a ha b hb e => ?_⟩
      subst e
      obtain ⟨m1, m2⟩ := mem_restO.mp hb
      exact m2 ((snd_iff hS _).mp (hV a ha m1))
    · have inV : ∀ x ∈ V', x ∈ V ++ restO S' V' := fun x hx => by
        by_cases m : x ∈ S'.map (·.2)
        · obtain ⟨p, hp, rfl⟩ := List.mem_map.mp m
          exact List.mem_append_left _ (ih.sv p ((hS p).mpr hp))
        · exact List.mem_append_right _ (mem_restO.mpr ⟨hx, m⟩)
      rcases List.mem_append.mp he with q | q
      · obtain ⟨a, b, c⟩ := ih.ev e q
        exact ⟨a, List.mem_append_left _ b, List.mem_append_left _ c⟩
      · obtain ⟨a, b, c⟩ := ih'.ev e q
        exact ⟨a, inV _ b, inV _ c⟩
    · rw [List.map_append, List.nodup_append]
      refine ⟨ih.en, ih'.en, fun a ha b hb e => ?_⟩
      obtain ⟨p, hp, rfl⟩ := List.mem_map.mp ha
      obtain ⟨q, hq, rfl⟩ := List.mem_map.mp hb
      exact hE p hp q hq e
/-! ### the frames -/
/-- the pairs of labels between whose vertices there is an edge -/
def EdgL (S : List (Nat × Nat)) (E : List (Nat × Nat)) (q : Nat × Nat) : Prop := q.1 < q.2 ∧ ∃ u v, (q.1, u) ∈ S ∧ (q.2, v) ∈ S ∧ ∃ e ∈ E, sp e = sp (u, v)
theorem keys_eq {S S' : List (Nat × Nat)} (h : ∀ p, p ∈ S ↔ p ∈ S') (a : (S.map (·.1)).Nodup) (b : (S'.map (·.1)).Nodup) : srtN (S'.map (·.1)) = srtN (S.map (·.1)) :=
  srtN_congr ((List.perm_ext_iff_of_nodup b a).mpr fun x => (fst_iff h x).symm)
theorem EdgL.congr {S S' E : List (Nat × Nat)} (h : ∀ p, p ∈ S ↔ p ∈ S') (q : Nat × Nat) : EdgL S E q ↔ EdgL S' E q := by
  unfold EdgL
  simp only [h]
theorem I.frame {t S V E B} (h : I t S V E B) : ∃ ps, frT t = some (srtN (S.map (·.1)), ps) ∧ ∀ q, q ∈ ps ↔ EdgL S E q := by
  induction h with
  | empty => exact ⟨[], by simp [frT, srtN], by simp [EdgL]⟩
  | @new t S V E B i x h hi hx ih =>
    obtain ⟨ps, h1, h2⟩ := ih
    have O := h.ok
    refine ⟨ps, ?_, fun q => ?_⟩
    · simp only [frT, h1, Option.bind_some, nextF]
      rw [if_neg (fun z => hi (mem_srtN.mp z))]
      refine congrArg some (Prod.ext ?_ rfl)
      show srtN (srtN (S.map (·.1)) ++ [i]) = srtN ((S ++ [(i, x)]).map (·.1))
      rw [List.map_append]
      exact srtN_congr ((srtN_perm _).append_right _)
    · rw [h2]
      constructor
      · rintro ⟨a, u, v, b, c, d⟩
        exact ⟨a, u, v, List.mem_append_left _ b, List.mem_append_left _ c, d⟩
      · rintro ⟨a, u, v, b, c, e, he, es⟩
        have old : ∀ {l w : Nat}, (l, w) ∈ S ++ [(i, x)] → (w = e.1 ∨ w = e.2) → (l, w) ∈ S := fun {l w} m z => by
          rcases List.mem_append.mp m with m | m
          · exact m
          · simp at m
            obtain ⟨rfl, rfl⟩ := m
            obtain ⟨_, e1, e2⟩ := O.ev e he
            rcases z with rfl | rfl
            · exact absurd e1 hx
            · exact absurd e2 hx
        have es' := sp_eq.mp es
        refine ⟨a, u, v, old b ?_, old c ?_, e, he, es⟩
        · rcases es' with rfl | ⟨_, q⟩
          · exact .inl rfl
          · exact .inr q.symm
        · rcases es' with rfl | ⟨q, _⟩
          · exact .inr rfl
          · exact .inl q.symm
  | @edge t S V E B i j u v h hij hu hv hn ih =>
    obtain ⟨ps, h1, h2⟩ := ih
    have O := h.ok
    refine ⟨srtP (ps ++ [(i, j)]), ?_, fun q => ?_⟩
    · have hc : ¬ (i, j) ∈ ps := fun z => by
        obtain ⟨_, u', v', a, b, e, he, es⟩ := (h2 _).mp z
        have e1 := fst_inj O.kn a hu
        have e2 := fst_inj O.kn b hv
        subst e1 e2
        exact hn e he es
      simp only [frT, h1, Option.bind_some, nextF]
      rw [if_pos ⟨hij, mem_srtN.mpr (List.mem_map.mpr ⟨_, hu, rfl⟩), mem_srtN.mpr (List.mem_map.mpr ⟨_, hv, rfl⟩), hc⟩]
    · rw [mem_srtP, List.mem_append, h2]
      constructor
      · rintro (⟨a, u, v, b, c, e, he, es⟩ | z)
        · exact ⟨a, u, v, b, c, e, List.mem_append_left _ he, es⟩
        · simp at z
          subst z
          exact ⟨hij, u, v, hu, hv, (u, v), by simp, rfl⟩
      · rintro ⟨a, u', v', b, c, e, he, es⟩
        rcases List.mem_append.mp he with he | he
        · exact .inl ⟨a, u', v', b, c, e, he, es⟩
        · simp at he
          subst he
          refine .inr ?_
          obtain ⟨q1, q2⟩ := q
          rcases sp_eq.mp es with z | ⟨z1, z2⟩
          · cases z
            have x1 : q1 = i := snd_inj O.vn b hu
            have x2 : q2 = j := snd_inj O.vn c hv
            subst x1 x2
            simp
          · dsimp only at a b c z1 z2
            subst z1 z2
            have := snd_inj O.vn b hv
            have := snd_inj O.vn c hu
            omega
  | @forget t S V E B i h hi ih =>
    obtain ⟨ps, h1, h2⟩ := ih
    have O := h.ok
    refine ⟨ps.filter (fun q => decide (¬ (i = q.1 ∨ i = q.2))), ?_, fun q => ?_⟩
    · simp only [frT, h1, Option.bind_some, nextF]
      rw [if_pos (mem_srtN.mpr hi)]
      refine congrArg some (Prod.ext ?_ rfl)
      have e : (del S i).map (·.1) = (S.map (·.1)).filter (fun x => decide (x ≠ i)) := by
        unfold del
        rw [List.filter_map]
        rfl
      show (srtN (S.map (·.1))).filter (fun x => decide (x ≠ i)) = srtN ((del S i).map (·.1))
      rw [e]
      exact srtN_uniq ((srtN_perm _).filter _) ((srtN_le _).filter _)
    · rw [List.mem_filter, h2]
      simp only [decide_eq_true_eq, not_or]
      constructor
      · rintro ⟨⟨a, u, v, b, c, d⟩, n1, n2⟩
        exact ⟨a, u, v, mem_del.mpr ⟨b, fun z => n1 z.symm⟩, mem_del.mpr ⟨c, fun z => n2 z.symm⟩, d⟩
      · rintro ⟨a, u, v, b, c, d⟩
        obtain ⟨b1, b2⟩ := mem_del.mp b
        obtain ⟨c1, c2⟩ := mem_del.mp c
        exact ⟨⟨a, u, v, b1, c1, d⟩, fun z => b2 z.symm, fun z => c2 z.symm⟩
  | @join t u S V E B S' V' E' B' h h' hS hV hE ih ih' =>
    obtain ⟨ps, h1, h2⟩ := ih
    obtain ⟨ps', h3, h4⟩ := ih'
    have O := h.ok
    have O' := h'.ok
    refine ⟨srtP (ps ++ ps'), ?_, fun q => ?_⟩
    · have hc : ∀ q ∈ ps', ¬ q ∈ ps := fun q hq hq' => by
        obtain ⟨_, u, v, a, b, e, he, es⟩ := (h2 q).mp hq'
        obtain ⟨_, u', v', a', b', e', he', es'⟩ := (h4 q).mp hq
        have e1 := fst_inj O.kn a ((hS _).mpr a')
        have e2 := fst_inj O.kn b ((hS _).mpr b')
        subst e1 e2
        exact hE e he e' he' (es.trans es'.symm)
      simp only [frT, h1, h3, Option.bind_some, nextF]
      rw [if_pos ⟨keys_eq hS O.kn O'.kn, hc⟩]
    · rw [mem_srtP, List.mem_append, h2, h4, EdgL.congr hS, ← EdgL.congr (E := E') hS, EdgL.congr (E := E') hS]
      unfold EdgL
      constructor
      · rintro (⟨a, u, v, b, c, e, he, es⟩ | ⟨a, u, v, b, c, e, he, es⟩)
        · exact ⟨a, u, v, (hS _).mpr b, (hS _).mpr c, e, List.mem_append_left _ he, es⟩
        · exact ⟨a, u, v, (hS _).mpr b, (hS _).mpr c, e, List.mem_append_right _ he, es⟩
      · rintro ⟨a, u, v, b, c, e, he, es⟩
        rcases List.mem_append.mp he with he | he
        · exact .inl ⟨a, u, v, (hS _).mp b, (hS _).mp c, e, he, es⟩
        · exact .inr ⟨a, u, v, (hS _).mp b, (hS _).mp c, e, he, es⟩
end SWM


/-! The run of the building, and the meaning. -/
namespace SWM
def mapS (φ : Nat → Nat) (S : List (Nat × Nat)) : List (Nat × Nat) := S.map fun p => (p.1, φ p.2)
def mapE (φ : Nat → Nat) (E : List (Nat × Nat)) : List (Nat × Nat) := E.map fun p => (φ p.1, φ p.2)
theorem mapS_fst (φ : Nat → Nat) (S : List (Nat × Nat)) : (mapS φ S).map (·.1) = S.map (·.1) := by unfold mapS; rw [List.map_map]; rfl
theorem mapS_snd (φ : Nat → Nat) (S : List (Nat × Nat)) : (mapS φ S).map (·.2) = (S.map (·.2)).map φ := by unfold mapS; rw [List.map_map, List.map_map]; rfl
theorem mem_mapS {φ : Nat → Nat} {S : List (Nat × Nat)} {p : Nat × Nat} : p ∈ mapS φ S ↔ ∃ x, (p.1, x) ∈ S ∧ p.2 = φ x := by
  unfold mapS
  rw [List.mem_map]
  constructor
  · rintro ⟨q, hq, rfl⟩
    exact ⟨q.2, hq, rfl⟩
  · rintro ⟨x, hx, e⟩
    exact ⟨(p.1, x), hx, Prod.ext rfl e.symm⟩
theorem mapS_del (φ : Nat → Nat) (S : List (Nat × Nat)) (i : Nat) : mapS φ (del S i) = del (mapS φ S) i := by
  unfold mapS del
  rw [List.filter_map]
  rfl
/-- the bag of a step: the numbers of its tokens, ascending -/
theorem bag_shown {φ : Nat → Nat} {S : List (Nat × Nat)} (h : (S.map (·.1)).Nodup) : srtN ((shown S).map φ) = bagV (mapS φ S) := by
  unfold bagV
  rw [mapS_snd]
  refine srtN_congr (List.Perm.map φ ?_)
  unfold shown
  have e : S.map (·.2) = (S.map (·.1)).map (lkD S) := by
    rw [List.map_map]
    refine List.map_congr_left fun p hp => ?_
    exact (lkD_of (lk_of_mem h (show (p.1, p.2) ∈ S from hp))).symm
  rw [e]
  exact (srtN_perm _).map _
def bagsOf (φ : Nat → Nat) (shw : List (List Nat)) : List (List Nat) := shw.reverse.map fun ts => srtN (ts.map φ)
theorem bagsOf_snoc (φ : Nat → Nat) (l : List (List Nat)) (x : List Nat) : bagsOf φ (l ++ [x]) = srtN (x.map φ) :: bagsOf φ l := by
  unfold bagsOf
  simp
theorem bagsOf_app (φ : Nat → Nat) (l m : List (List Nat)) : bagsOf φ (l ++ m) = bagsOf φ m ++ bagsOf φ l := by
  unfold bagsOf
  simp
/-- the meaning of a valid tree by a numbering of its tokens -/
theorem meaning (φ : Nat → Nat) : ∀ {t : Tr} {f : Frm} (n : Nat), frT t = some f → (∀ x ∈ (ev t n).ord, ∀ y ∈ (ev t n).ord, φ x = φ y → x = y) → (∀ p ∈ (ev t n).bec, φ p.1 = φ p.2) →
    ∃ B, I t (mapS φ (ev t n).src) ((ev t n).ord.map φ) (mapE φ (ev t n).eds) B ∧ B.pre = bagsOf φ (ev t n).shw
  | .empty, f, n, _, _, _ => ⟨.leaf [], by simpa [ev, mapS, mapE] using I.empty, by simp [ev, BT.pre, bagsOf, srtN]⟩
  | .new i t, f, n, h, inj, hb => by
    obtain ⟨g, h1, h2⟩ := Option.bind_eq_some_iff.mp h
    have T := tokOk n h1
    simp only [nextF] at h2
    split at h2
    · cases h2
    rename_i hi
    have ni : ¬ i ∈ (ev t n).src.map (·.1) := fun q => hi ((T.keys i).mp q)
    have en : ev (.new i t) n = ⟨(ev t n).src ++ [(i, (ev t n).tok)], (ev t n).ord ++ [(ev t n).tok], (ev t n).tok + 1, (ev t n).bec, (ev t n).eds, (ev t n).shw ++ [shown ((ev t n).src ++ [(i, (ev t n).tok)])]⟩ := by
      simp only [ev, put_new ni]
    have T' := tokOk n h
    rw [en] at T' inj hb ⊢
    dsimp only at inj hb ⊢
    obtain ⟨B, hI, hB⟩ := meaning φ n h1 (fun x hx y hy e => inj x (List.mem_append_left _ hx) y (List.mem_append_left _ hy) e) hb
    have nx : ¬ φ (ev t n).tok ∈ (ev t n).ord.map φ := fun q => by
      obtain ⟨x, hx, e⟩ := List.mem_map.mp q
      have := inj x (List.mem_append_left _ hx) _ (List.mem_append_right _ (by simp)) e
      have := T.ord x hx
      omega
    have e1 : mapS φ ((ev t n).src ++ [(i, (ev t n).tok)]) = mapS φ (ev t n).src ++ [(i, φ (ev t n).tok)] := by simp [mapS]
    have J := I.new hI (i := i) (x := φ (ev t n).tok) (by rw [mapS_fst]; exact ni) nx
    refine ⟨_, by rw [e1, List.map_append]; exact J, ?_⟩
    rw [bagsOf_snoc, ← hB, bag_shown T'.kn, e1]
    rfl
  | .edge i j t, f, n, h, inj, hb => by
    obtain ⟨g, h1, h2⟩ := Option.bind_eq_some_iff.mp h
    have T := tokOk n h1
    simp only [nextF] at h2
    split at h2
    · rename_i hc
      obtain ⟨B, hI, hB⟩ := meaning φ n h1 inj hb
      obtain ⟨ps, f1, f2⟩ := hI.frame
      rw [h1] at f1
      obtain rfl := Option.some.inj f1
      have mu : (i, φ (lkD (ev t n).src i)) ∈ mapS φ (ev t n).src := mem_mapS.mpr ⟨_, lkD_mem ((T.keys i).mpr hc.2.1), rfl⟩
      have mv : (j, φ (lkD (ev t n).src j)) ∈ mapS φ (ev t n).src := mem_mapS.mpr ⟨_, lkD_mem ((T.keys j).mpr hc.2.2.1), rfl⟩
      have J := I.edge hI hc.1 mu mv fun e he es => hc.2.2.2 ((f2 _).mpr ⟨hc.1, _, _, mu, mv, e, he, es⟩)
      refine ⟨_, by simpa [ev, mapE] using J, ?_⟩
      simp only [ev]
      rw [bagsOf_snoc, ← hB, bag_shown T.kn]
      rfl
    · cases h2
  | .forget i t, f, n, h, inj, hb => by
    obtain ⟨g, h1, h2⟩ := Option.bind_eq_some_iff.mp h
    have T := tokOk n h1
    simp only [nextF] at h2
    split at h2
    · rename_i hc
      obtain ⟨B, hI, hB⟩ := meaning φ n h1 inj hb
      have J := I.forget hI (i := i) (by rw [mapS_fst]; exact (T.keys i).mpr hc)
      refine ⟨_, by simp only [ev]; rw [mapS_del]; exact J, ?_⟩
      simp only [ev]
      rw [bagsOf_snoc, ← hB, bag_shown T.kn]
      rfl
    · cases h2
  | .join t u, f, n, h, inj, hb => by
    obtain ⟨g, h1, h2⟩ := Option.bind_eq_some_iff.mp h
    obtain ⟨g', h3, h4⟩ := Option.bind_eq_some_iff.mp h2
    have T := tokOk n h1
    have U := tokOk (ev t n).tok h3
    simp only [nextF] at h4
    split at h4
    · rename_i hc
      simp only [ev] at inj hb ⊢
      generalize hr : ev t n = r at *
      generalize hq : ev u r.tok = q at *
      have low : ∀ p ∈ q.src, (p.1, lkD r.src p.1) ∈ r.src := fun p hp => lkD_mem ((T.keys _).mpr (by rw [← hc.1]; exact (U.keys _).mp (List.mem_map.mpr ⟨p, hp, rfl⟩)))
      have hbu : ∀ p ∈ q.src, φ p.2 = φ (lkD r.src p.1) := fun p hp => hb _ (List.mem_append_right _ (List.mem_append_right _ (List.mem_map.mpr ⟨p, hp, rfl⟩)))
      have injT : ∀ x ∈ r.ord, ∀ y ∈ r.ord, φ x = φ y → x = y := fun x hx y hy e => inj x (List.mem_append_left _ hx) y (List.mem_append_left _ hy) e
      -- a token of the upper graph: labelled, or in the join's order
      have cls : ∀ x ∈ q.ord, (∃ p ∈ q.src, p.2 = x) ∨ x ∈ restO q.src q.ord := fun x hx => by
        by_cases m : x ∈ q.src.map (·.2)
        · obtain ⟨p, hp, e⟩ := List.mem_map.mp m
          exact .inl ⟨p, hp, e⟩
        · exact .inr (mem_restO.mpr ⟨hx, m⟩)
      have ltU : ∀ x ∈ r.ord, ∀ y ∈ q.ord, x ≠ y := fun x hx y hy e => by have := T.ord x hx; have := U.ord y hy; omega
      have injU : ∀ x ∈ q.ord, ∀ y ∈ q.ord, φ x = φ y → x = y := fun x hx y hy e => by
        rcases cls x hx with ⟨p, hp, rfl⟩ | mx <;> rcases cls y hy with ⟨p', hp', rfl⟩ | my
        · rw [hbu p hp, hbu p' hp'] at e
          have e2 := injT _ (T.so _ (low p hp)) _ (T.so _ (low p' hp')) e
          have e3 : (p'.1, lkD r.src p.1) ∈ r.src := by rw [show lkD r.src p.1 = lkD r.src p'.1 from e2]; exact low p' hp'
          have e4 : p.1 = p'.1 := snd_inj T.vn (low p hp) e3
          have e5 : (p.1, p'.2) ∈ q.src := by rw [e4]; exact hp'
          exact fst_inj U.kn (show (p.1, p.2) ∈ q.src from hp) e5
        · rw [hbu p hp] at e
          exact absurd (inj _ (List.mem_append_left _ (T.so _ (low p hp))) _ (List.mem_append_right _ my) e) (ltU _ (T.so _ (low p hp)) _ hy)
        · rw [hbu p' hp'] at e
          exact absurd (inj _ (List.mem_append_left _ (T.so _ (low p' hp'))) _ (List.mem_append_right _ mx) e.symm) (ltU _ (T.so _ (low p' hp')) _ hx)
        · exact inj x (List.mem_append_right _ mx) y (List.mem_append_right _ my) e
      obtain ⟨B, hI, hB⟩ := meaning φ n h1 (by rw [hr]; exact injT) (by rw [hr]; exact fun p hp => hb p (List.mem_append_left _ hp))
      obtain ⟨B', hI', hB'⟩ := meaning φ r.tok h3 (by rw [hq]; exact injU) (by rw [hq]; exact fun p hp => hb p (List.mem_append_right _ (List.mem_append_left _ hp)))
      rw [hr] at hI hB
      rw [hq] at hI' hB'
      have hS : ∀ p, p ∈ mapS φ r.src ↔ p ∈ mapS φ q.src := fun p => by
        rw [mem_mapS, mem_mapS]
        constructor
        · rintro ⟨x, hx, e⟩
          have k : p.1 ∈ q.src.map (·.1) := (U.keys _).mpr (by rw [hc.1]; exact (T.keys _).mp (List.mem_map.mpr ⟨_, hx, rfl⟩))
          have m := lkD_mem k
          refine ⟨_, m, ?_⟩
          have lo := low (p.1, lkD q.src p.1) m
          have e2 := fst_inj T.kn hx lo
          have e3 := hbu (p.1, lkD q.src p.1) m
          dsimp only at e2 e3
          rw [e, e2, e3]
        · rintro ⟨x, hx, e⟩
          exact ⟨_, low (p.1, x) hx, by rw [e]; exact hbu (p.1, x) hx⟩
      have hV : ∀ x ∈ r.ord.map φ, x ∈ q.ord.map φ → x ∈ (mapS φ r.src).map (·.2) := fun x hx hy => by
        obtain ⟨a, ha, rfl⟩ := List.mem_map.mp hx
        obtain ⟨b, hb', e⟩ := List.mem_map.mp hy
        rcases cls b hb' with ⟨p, hp, rfl⟩ | my
        · exact mem_snd ((hS (p.1, φ a)).mpr (mem_mapS.mpr ⟨p.2, hp, e.symm⟩))
        · exact absurd (inj a (List.mem_append_left _ ha) b (List.mem_append_right _ my) e.symm) (ltU a ha b hb')
      obtain ⟨ps, f1, f2⟩ := hI.frame
      obtain ⟨ps', f3, f4⟩ := hI'.frame
      rw [h1] at f1
      rw [h3] at f3
      obtain rfl := Option.some.inj f1
      obtain rfl := Option.some.inj f3
      have O := hI.ok
      have O' := hI'.ok
      have hE : ∀ e ∈ mapE φ r.eds, ∀ e' ∈ mapE φ q.eds, sp e ≠ sp e' := fun e he e' he' es => by
        obtain ⟨ne, a1, a2⟩ := O.ev e he
        obtain ⟨_, b1, b2⟩ := O'.ev e' he'
        have bb : e.1 ∈ q.ord.map φ ∧ e.2 ∈ q.ord.map φ := by
          rcases sp_eq.mp es with z | ⟨z1, z2⟩
          · rw [z]; exact ⟨b1, b2⟩
          · rw [z1, z2]; exact ⟨b2, b1⟩
        obtain ⟨p1, hp1, e1⟩ := List.mem_map.mp (hV _ a1 bb.1)
        obtain ⟨p2, hp2, e2⟩ := List.mem_map.mp (hV _ a2 bb.2)
        have ne' : p1.1 ≠ p2.1 := fun z => ne (by
          rw [← e1, ← e2]
          exact fst_inj O.kn (show (p1.1, p1.2) ∈ _ from hp1) (by rw [z]; exact hp2))
        have both : ∀ i j u v : Nat, i < j → (i, u) ∈ mapS φ r.src → (j, v) ∈ mapS φ r.src → sp e = sp (u, v) → False := fun i j u v hij hu hv hs =>
          hc.2 (i, j) ((f4 _).mpr ⟨hij, u, v, (hS _).mp hu, (hS _).mp hv, e', he', es.symm.trans hs⟩) ((f2 _).mpr ⟨hij, u, v, hu, hv, e, he, hs⟩)
        rcases Nat.lt_or_gt_of_ne ne' with z | z
        · exact both _ _ p1.2 p2.2 z hp1 hp2 (by rw [e1, e2])
        · exact both _ _ p2.2 p1.2 z hp2 hp1 (by rw [e1, e2]; exact sp_swap _ _)
      have J := I.join hI hI' hS hV hE
      have eO : (r.ord ++ restO q.src q.ord).map φ = r.ord.map φ ++ restO (mapS φ q.src) (q.ord.map φ) := by
        rw [List.map_append]
        refine congrArg (r.ord.map φ ++ ·) ?_
        unfold restO
        rw [List.filter_map]
        refine congrArg (List.map φ) (List.filter_congr fun x hx => ?_)
        simp only [Function.comp]
        rw [mapS_snd]
        refine decide_eq_decide.mpr (not_congr ⟨fun m => List.mem_map.mpr ⟨x, m, rfl⟩, fun m => ?_⟩)
        obtain ⟨y, hy, e⟩ := List.mem_map.mp m
        obtain ⟨p, hp, rfl⟩ := List.mem_map.mp hy
        rw [← injU _ (U.so p hp) _ hx e]
        exact hy
      refine ⟨_, by rw [eO]; simpa [mapE] using J, ?_⟩
      rw [← List.append_assoc, bagsOf_snoc, bagsOf_app, ← hB, ← hB', bag_shown T.kn]
      rfl
    · cases h4
/-- a tree that has a meaning: its tokens have vertices -/
theorem vertices {t S V E B} (h : I t S V E B) : ∀ n, ∃ ψ : Nat → Nat, S = mapS ψ (ev t n).src ∧ V = (ev t n).ord.map ψ ∧ E = mapE ψ (ev t n).eds ∧ ∀ p ∈ (ev t n).bec, ψ p.1 = ψ p.2 := by
  induction h with
  | empty => exact fun n => ⟨fun x => x, by simp [ev, mapS], by simp [ev], by simp [ev, mapE], by simp [ev]⟩
  | @new t S V E B i x h hi hx ih =>
    intro n
    obtain ⟨ψ, h1, h2, h3, h4⟩ := ih n
    obtain ⟨ps, hf, _⟩ := h.frame
    have T := tokOk n hf
    have ni : ¬ i ∈ (ev t n).src.map (·.1) := fun q => hi (by rw [h1, mapS_fst]; exact q)
    have en : ev (.new i t) n = ⟨(ev t n).src ++ [(i, (ev t n).tok)], (ev t n).ord ++ [(ev t n).tok], (ev t n).tok + 1, (ev t n).bec, (ev t n).eds, (ev t n).shw ++ [shown ((ev t n).src ++ [(i, (ev t n).tok)])]⟩ := by
      simp only [ev, put_new ni]
    rw [en]
    obtain ⟨χ, ex, e0⟩ : ∃ χ : Nat → Nat, (∀ y, y < (ev t n).tok → χ y = ψ y) ∧ χ (ev t n).tok = x := ⟨fun y => if y = (ev t n).tok then x else ψ y, fun y hy => if_neg (Nat.ne_of_lt hy), if_pos rfl⟩
    refine ⟨χ, ?_, ?_, ?_, ?_⟩
    · rw [h1]
      unfold mapS
      rw [List.map_append]
      refine congr (congrArg (· ++ ·) (List.map_congr_left fun p hp => ?_)) (by simp [e0])
      rw [ex _ (T.ord _ (T.so p hp)).2]
    · rw [h2, List.map_append]
      refine congr (congrArg (· ++ ·) (List.map_congr_left fun p hp => ?_)) (by simp [e0])
      rw [ex _ (T.ord _ hp).2]
    · rw [h3]
      refine List.map_congr_left fun p hp => ?_
      have := T.eds p hp
      rw [ex _ this.1.2, ex _ this.2.2]
    · intro p hp
      have := T.bec p hp
      rw [ex _ this.2.2.1, ex _ (by omega)]
      exact h4 p hp
  | @edge t S V E B i j u v h hij hu hv hn ih =>
    intro n
    obtain ⟨ψ, h1, h2, h3, h4⟩ := ih n
    obtain ⟨ps, hf, _⟩ := h.frame
    have T := tokOk n hf
    refine ⟨ψ, h1, h2, ?_, h4⟩
    simp only [ev]
    unfold mapE
    rw [List.map_append, h3]
    refine congrArg (mapE ψ (ev t n).eds ++ ·) ?_
    have val : ∀ {l w : Nat}, (l, w) ∈ S → w = ψ (lkD (ev t n).src l) := fun {l w} m => by
      rw [h1] at m
      obtain ⟨x, hx, e⟩ := mem_mapS.mp m
      rw [lkD_of (lk_of_mem T.kn hx)]
      exact e
    simp [val hu, val hv]
  | @forget t S V E B i h hi ih =>
    intro n
    obtain ⟨ψ, h1, h2, h3, h4⟩ := ih n
    exact ⟨ψ, by simp only [ev]; rw [mapS_del, h1], h2, h3, h4⟩
  | @join t u S V E B S' V' E' B' h h' hS hV hE ih ih' =>
    intro n
    obtain ⟨ψ, h1, h2, h3, h4⟩ := ih n
    obtain ⟨ψ', g1, g2, g3, g4⟩ := ih' (ev t n).tok
    obtain ⟨ps, hf, _⟩ := h.frame
    obtain ⟨ps', hf', _⟩ := h'.frame
    have T := tokOk n hf
    have U := tokOk (ev t n).tok hf'
    have O := h.ok
    have O' := h'.ok
    simp only [ev]
    generalize hr : ev t n = r at *
    generalize hq : ev u r.tok = q at *
    obtain ⟨χ, a1, a2⟩ : ∃ χ : Nat → Nat, (∀ y, y < r.tok → χ y = ψ y) ∧ ∀ y, r.tok ≤ y → χ y = ψ' y := ⟨fun y => if y < r.tok then ψ y else ψ' y, fun y hy => if_pos hy, fun y hy => if_neg (by omega)⟩
    refine ⟨χ, ?_, ?_, ?_, ?_⟩
    · rw [h1]
      refine List.map_congr_left fun p hp => ?_
      rw [a1 _ (T.ord _ (T.so p hp)).2]
    · rw [List.map_append]
      have e1 : V = r.ord.map χ := by
        rw [h2]
        refine List.map_congr_left fun p hp => ?_
        rw [a1 _ (T.ord _ hp).2]
      refine congr (congrArg (fun a b => a ++ b) e1) ?_
      · have e : (restO q.src q.ord).map χ = (restO q.src q.ord).map ψ' := List.map_congr_left fun p hp => a2 _ (U.ord _ (mem_restO.mp hp).1).1
        rw [e]
        unfold restO
        rw [g2, List.filter_map]
        refine congrArg (List.map ψ') (List.filter_congr fun x hx => ?_)
        simp only [Function.comp]
        rw [g1, mapS_snd]
        refine decide_eq_decide.mpr (not_congr ⟨fun m => ?_, fun m => List.mem_map.mpr ⟨x, m, rfl⟩⟩)
        obtain ⟨y, hy, e⟩ := List.mem_map.mp m
        obtain ⟨p, hp, rfl⟩ := List.mem_map.mp hy
        have inj := inj_of_nodup_map (by rw [← g2]; exact O'.on)
        rw [← inj _ (U.so p hp) _ hx e]
        exact hy
    · unfold mapE
      rw [List.map_append, h3, g3]
      refine congr (congrArg (· ++ ·) (List.map_congr_left fun p hp => ?_)) (List.map_congr_left fun p hp => ?_)
      · have := T.eds p hp
        rw [a1 _ this.1.2, a1 _ this.2.2]
      · have := U.eds p hp
        rw [a2 _ this.1.1, a2 _ this.2.1]
    · intro p hp
      rcases List.mem_append.mp hp with z | z
      · have := T.bec p z
        rw [a1 _ this.2.2.1, a1 _ (by omega)]
        exact h4 p z
      · rcases List.mem_append.mp z with z | z
        · have := U.bec p z
          rw [a2 _ (by omega), a2 _ this.1]
          exact g4 p z
        · obtain ⟨s, hs, rfl⟩ := List.mem_map.mp z
          have m : (s.1, ψ' s.2) ∈ S := (hS _).mpr (by rw [g1]; exact mem_mapS.mpr ⟨_, hs, rfl⟩)
          rw [h1] at m
          obtain ⟨x, hx, e⟩ := mem_mapS.mp m
          have lx : lkD r.src s.1 = x := lkD_of (lk_of_mem T.kn hx)
          show χ s.2 = χ (lkD r.src s.1)
          rw [lx, a1 _ (T.ord _ (T.so _ hx)).2, a2 _ (U.ord _ (U.so s hs)).1]
          exact e
end SWM


/-! What is made of a term; the bags' tree. -/
namespace SWM
/-! ### the graph -/
theorem shwOk : ∀ {t : Tr} {f : Frm} (n : Nat), frT t = some f → ∀ ts ∈ (ev t n).shw, ∀ x ∈ ts, n ≤ x ∧ x < (ev t n).tok := by
  have sh : ∀ {n : Nat} {f : Frm} {r : Rs}, TokOk n f r → ∀ x ∈ shown r.src, n ≤ x ∧ x < r.tok := fun {n f r} T x hx => by
    obtain ⟨l, hl, rfl⟩ := List.mem_map.mp hx
    exact T.ord _ (T.so _ (lkD_mem (mem_srtN.mp hl)))
  intro t
  induction t with
  | empty => intro f n h ts hts x hx; simp [ev] at hts; subst hts; simp at hx
  | new i t ih =>
    intro f n h ts hts x hx
    have T' := tokOk n h
    obtain ⟨g, h1, h2⟩ := Option.bind_eq_some_iff.mp h
    simp only [ev] at hts ⊢
    rcases List.mem_append.mp hts with q | q
    · have := ih n h1 ts q x hx
      omega
    · simp at q; subst q
      exact sh T' x hx
  | edge i j t ih =>
    intro f n h ts hts x hx
    obtain ⟨g, h1, h2⟩ := Option.bind_eq_some_iff.mp h
    simp only [ev] at hts ⊢
    rcases List.mem_append.mp hts with q | q
    · exact ih n h1 ts q x hx
    · simp at q; subst q
      exact sh (tokOk n h1) x hx
  | forget i t ih =>
    intro f n h ts hts x hx
    obtain ⟨g, h1, h2⟩ := Option.bind_eq_some_iff.mp h
    simp only [ev] at hts ⊢
    rcases List.mem_append.mp hts with q | q
    · exact ih n h1 ts q x hx
    · simp at q; subst q
      exact sh (tokOk n h1) x hx
  | join t u ih ih' =>
    intro f n h ts hts x hx
    obtain ⟨g, h1, h2⟩ := Option.bind_eq_some_iff.mp h
    obtain ⟨g', h3, h4⟩ := Option.bind_eq_some_iff.mp h2
    have T := tokOk n h1
    have U := tokOk (ev t n).tok h3
    have := T.le
    have := U.le
    simp only [ev] at hts ⊢
    rcases List.mem_append.mp hts with q | q
    · have := ih n h1 ts q x hx
      omega
    · rcases List.mem_append.mp q with q | q
      · have := ih' _ h3 ts q x hx
        omega
      · simp at q; subst q
        have := sh T x hx
        omega
/-- what the building of a term has: for the walk -/
structure BldOk (T : List Stp) : Prop where
  on : (ordT T).Nodup
  dec : ∀ a b, lk (bld T).bec a = some b → b < a
  res : ∀ x, x < (bld T).tok → res (bld T).bec x ∈ ordT T
  ord : ∀ x ∈ ordT T, x < (bld T).tok
  eds : ∀ p ∈ (bld T).eds, p.1 < (bld T).tok ∧ p.2 < (bld T).tok
  shw : ∀ ts ∈ (bld T).shw, ∀ x ∈ ts, x < (bld T).tok
  src : ∀ p ∈ (topG (bld T)).1, p.2 < (bld T).tok
  one : ∃ g, (bld T).stk = [g]
  kn : ((topG (bld T)).1.map (·.1)).Nodup
section
variable {t : Tr} {f : Frm}
theorem bec_eq (h : frT t = some f) : (bld (post t)).bec = (ev t 0).bec := by
  rw [bld_eq]
  exact puts_nil_of (by simpa using (tokOk 0 h).bn)
theorem ordT_eq (t : Tr) : ordT (post t) = (ev t 0).ord := by
  unfold ordT topG
  rw [bld_eq]
  rfl
theorem bldOk (h : frT t = some f) : BldOk (post t) := by
  have T := tokOk 0 h
  have e := bec_eq h
  refine ⟨by rw [ordT_eq]; exact T.on, fun a b q => ?_, fun x hx => ?_, fun x hx => ?_, fun p hp => ?_, fun ts hts x hx => ?_, fun p hp => ?_, ?_, ?_⟩
  · rw [e] at q; exact (T.bec _ (lk_mem q)).2.1
  · rw [e, ordT_eq]
    rw [bld_eq] at hx
    exact (res_in T (fun _ => 0) (fun _ _ => rfl) x x (Nat.le_refl _) (Nat.zero_le _) hx).1
  · rw [ordT_eq] at hx
    rw [bld_eq]
    exact (T.ord x hx).2
  · rw [bld_eq] at hp ⊢
    exact ⟨(T.eds p hp).1.2, (T.eds p hp).2.2⟩
  · rw [bld_eq] at hts ⊢
    exact (shwOk 0 h ts hts x hx).2
  · rw [bld_eq] at hp ⊢
    exact (T.ord _ (T.so p (by simpa [topG] using hp))).2
  · rw [bld_eq]; exact ⟨_, rfl⟩
  · rw [bld_eq]; simpa [topG] using T.kn
theorem num_ord (h : frT t = some f) {x : Nat} (hx : x ∈ ordT (post t)) : num (post t) x = (ordT (post t)).idxOf x := by
  have T := tokOk 0 h
  unfold num
  rw [bec_eq h, res_end (lk_none.mpr fun z => ?_)]
  obtain ⟨p, hp, rfl⟩ := List.mem_map.mp z
  rw [ordT_eq] at hx
  exact (T.bec p hp).2.2.2 hx
/-- the graph and the bags of a term, and the meaning by its own numbers -/
theorem own_meaning (h : frT t = some f) : ∃ S E B, I t S (List.range (sizeT (post t))) E B ∧ E.map sp = edgesT (post t) ∧ B.pre = bagsT (post t) ∧ srtN (S.map (·.1)) = f.1 := by
  have T := tokOk 0 h
  have d : ∀ a b, lk (ev t 0).bec a = some b → b < a := fun a b q => (T.bec _ (lk_mem q)).2.1
  have inj : ∀ x ∈ (ev t 0).ord, ∀ y ∈ (ev t 0).ord, num (post t) x = num (post t) y → x = y := fun x hx y hy e => by
    rw [num_ord h (by rw [ordT_eq]; exact hx), num_ord h (by rw [ordT_eq]; exact hy), ordT_eq] at e
    have a := List.getElem_idxOf (List.idxOf_lt_length_iff.mpr hx)
    have b := List.getElem_idxOf (List.idxOf_lt_length_iff.mpr hy)
    rw [← a, ← b]
    congr 1
  have hb : ∀ p ∈ (ev t 0).bec, num (post t) p.1 = num (post t) p.2 := fun p hp => by
    unfold num
    rw [bec_eq h, res_step d (lk_of_mem T.bn (show (p.1, p.2) ∈ _ from hp))]
  obtain ⟨B, hI, hB⟩ := meaning (num (post t)) 0 h inj hb
  have eV : (ev t 0).ord.map (num (post t)) = List.range (sizeT (post t)) := by
    refine List.ext_getElem (by simp [sizeT, ordT_eq]) fun i h1 h2 => ?_
    have hi : i < (ev t 0).ord.length := by simpa using h1
    rw [List.getElem_map, List.getElem_range, num_ord h (by rw [ordT_eq]; exact List.getElem_mem hi), ordT_eq]
    exact T.on.idxOf_getElem i hi
  rw [eV] at hI
  refine ⟨_, _, B, hI, ?_, ?_, ?_⟩
  · unfold edgesT mapE
    rw [bld_eq, List.map_map]
    rfl
  · rw [hB]
    unfold bagsT bagsOf
    rw [bld_eq]
  · obtain ⟨ps, h1, _⟩ := hI.frame
    rw [h] at h1
    rw [Option.some.inj h1]
/-- .. by any meaning -/
theorem made_of {S V E B} (h : I t S V E B) : sizeT (post t) = V.length ∧ edgesT (post t) = E.map fun e => sp (V.idxOf e.1, V.idxOf e.2) := by
  obtain ⟨ps, hf, _⟩ := h.frame
  obtain ⟨ψ, h1, h2, h3, h4⟩ := vertices h 0
  have T := tokOk 0 hf
  have O := h.ok
  have inj := inj_of_nodup_map (by rw [← h2]; exact O.on)
  refine ⟨by rw [h2]; simp [sizeT, ordT_eq], ?_⟩
  unfold edgesT
  rw [h3]
  unfold mapE
  rw [bld_eq, List.map_map]
  refine List.map_congr_left fun p hp => ?_
  have key : ∀ x, x < (ev t 0).tok → num (post t) x = V.idxOf (ψ x) := fun x hx => by
    obtain ⟨a, b⟩ := res_in T ψ h4 x x (Nat.le_refl _) (Nat.zero_le _) hx
    unfold num
    rw [bec_eq hf, ordT_eq, ← b, h2]
    exact (idxOf_map a inj).symm
  have := T.eds p hp
  simp only [Function.comp]
  rw [key _ this.1.2, key _ this.2.2]
end
/-! ### the tree of bags -/
def BT.vs (B : BT) : List Nat := B.pre.flatten
def BT.size (B : BT) : Nat := B.pre.length
def BT.WF : BT → Prop
  | .leaf _ => True
  | .one b c => c.WF ∧ ∀ x ∈ b, x ∈ c.vs → x ∈ c.bag
  | .two b c d => c.WF ∧ d.WF ∧ (∀ x ∈ b, x ∈ c.vs → x ∈ c.bag) ∧ (∀ x ∈ b, x ∈ d.vs → x ∈ d.bag) ∧ ∀ x ∈ c.vs, x ∈ d.vs → x ∈ b
/-- what a bag has more than another one -/
def more (b c : List Nat) : List Nat := b.filter fun v => decide (¬ v ∈ c)
def BT.Adj : BT → Prop
  | .leaf b => b = []
  | .one b c => c.Adj ∧ (more c.bag b).length ≤ 1 ∧ (more b c.bag).length ≤ 1
  | .two b c d => c.Adj ∧ d.Adj ∧ (more c.bag b).length ≤ 1 ∧ (more b c.bag).length ≤ 1 ∧ (more d.bag b).length ≤ 1 ∧ (more b d.bag).length ≤ 1
theorem mem_bagV {S : List (Nat × Nat)} {x : Nat} : x ∈ bagV S ↔ x ∈ S.map (·.2) := mem_srtN
theorem BT.bag_pre (B : BT) : B.bag ∈ B.pre := by cases B <;> simp [bag, pre]
theorem BT.bag_vs {B : BT} {x : Nat} (h : x ∈ B.bag) : x ∈ B.vs := List.mem_flatten.mpr ⟨_, B.bag_pre, h⟩
theorem vs_one {b : List Nat} {c : BT} {x : Nat} : x ∈ (BT.one b c).vs ↔ x ∈ b ∨ x ∈ c.vs := by simp [BT.vs, BT.pre]
theorem vs_two {b : List Nat} {c d : BT} {x : Nat} : x ∈ (BT.two b c d).vs ↔ x ∈ b ∨ x ∈ c.vs ∨ x ∈ d.vs := by simp [BT.vs, BT.pre]
theorem bagV_len {S : List (Nat × Nat)} : (bagV S).length = S.length := by unfold bagV; rw [srtN_len]; simp
/-- all about the bags of a meaning -/
structure BagOk (S : List (Nat × Nat)) (V : List Nat) (E : List (Nat × Nat)) (B : BT) : Prop where
  vs : ∀ x, x ∈ B.vs ↔ x ∈ V
  sub : ∀ x ∈ S.map (·.2), x ∈ B.bag
  near : ∃ z, ∀ x ∈ B.bag, x ∈ S.map (·.2) ∨ x = z
  asc : ∀ b ∈ B.pre, b.Pairwise (· < ·)
  wf : B.WF
  adj : B.Adj
  edg : ∀ e ∈ E, ∃ b ∈ B.pre, e.1 ∈ b ∧ e.2 ∈ b
theorem more_one {b c : List Nat} {z : Nat} (h : b.Pairwise (· < ·)) (g : ∀ x ∈ b, x ∈ c ∨ x = z) : (more b c).length ≤ 1 := by
  have nd : (more b c).Nodup := (nodup_of_lt h).sublist List.filter_sublist
  have := List.Nodup.length_le_of_subset nd (l₂ := [z]) fun x hx => by
    obtain ⟨a, b⟩ := List.mem_filter.mp hx
    rcases g x a with q | q
    · simp [q] at b
    · simp [q]
  simpa using this
theorem I.bags {t S V E B} (h : I t S V E B) : BagOk S V E B := by
  induction h with
  | empty => exact ⟨by simp [BT.vs, BT.pre], by simp, ⟨0, by simp [BT.bag]⟩, by simp [BT.pre], trivial, rfl, by simp⟩
  | @new t S V E B i x h hi hx ih =>
    have O := (I.new h hi hx).ok
    have ab : (bagV (S ++ [(i, x)])).Pairwise (· < ·) := srtN_lt O.vn
    have mb : ∀ y, y ∈ bagV (S ++ [(i, x)]) ↔ y ∈ S.map (·.2) ∨ y = x := fun y => by rw [mem_bagV]; simp
    refine ⟨fun y => ?_, fun y hy => mem_bagV.mpr hy, ⟨0, fun y hy => .inl (mem_bagV.mp hy)⟩, fun b hb => ?_, ⟨ih.wf, fun y hy hv => ?_⟩, ⟨ih.adj, ?_, ?_⟩, fun e he => ?_⟩
    · rw [vs_one, ih.vs, mb]
      simp only [List.mem_append, List.mem_singleton]
      constructor
      · rintro ((q | q) | q)
        · exact .inl ((ih.vs y).mp (BT.bag_vs (ih.sub y q)))
        · exact .inr q
        · exact .inl q
      · rintro (q | q)
        · exact .inr q
        · exact .inl (.inr q)
    · rcases List.mem_cons.mp hb with rfl | q
      · exact ab
      · exact ih.asc b q
    · rcases (mb y).mp hy with q | q
      · exact ih.sub y q
      · exact absurd ((ih.vs y).mp hv) (by rw [q]; exact hx)
    · obtain ⟨z, hz⟩ := ih.near
      exact more_one (z := z) (ih.asc _ B.bag_pre) fun y hy => (hz y hy).imp (fun q => (mb y).mpr (.inl q)) id
    · exact more_one (z := x) ab fun y hy => ((mb y).mp hy).imp (ih.sub y) id
    · obtain ⟨b, hb, q⟩ := ih.edg e he
      exact ⟨b, List.mem_cons_of_mem _ hb, q⟩
  | @edge t S V E B i j u v h hij hu hv hn ih =>
    have O := h.ok
    have ab : (bagV S).Pairwise (· < ·) := srtN_lt O.vn
    refine ⟨fun y => ?_, fun y hy => mem_bagV.mpr hy, ⟨0, fun y hy => .inl (mem_bagV.mp hy)⟩, fun b hb => ?_, ⟨ih.wf, fun y hy hv => ih.sub y (mem_bagV.mp hy)⟩, ⟨ih.adj, ?_, ?_⟩, fun e he => ?_⟩
    · rw [vs_one, ih.vs, mem_bagV]
      exact ⟨fun q => q.elim (fun q => (ih.vs y).mp (BT.bag_vs (ih.sub y q))) id, .inr⟩
    · rcases List.mem_cons.mp hb with rfl | q
      · exact ab
      · exact ih.asc b q
    · obtain ⟨z, hz⟩ := ih.near
      exact more_one (z := z) (ih.asc _ B.bag_pre) fun y hy => (hz y hy).imp mem_bagV.mpr id
    · exact more_one (z := 0) ab fun y hy => .inl (ih.sub y (mem_bagV.mp hy))
    · rcases List.mem_append.mp he with q | q
      · obtain ⟨b, hb, q⟩ := ih.edg e q
        exact ⟨b, List.mem_cons_of_mem _ hb, q⟩
      · simp at q; subst q
        exact ⟨bagV S, List.mem_cons_self, mem_bagV.mpr (mem_snd hu), mem_bagV.mpr (mem_snd hv)⟩
  | @forget t S V E B i h hi ih =>
    have O := h.ok
    have ab : (bagV S).Pairwise (· < ·) := srtN_lt O.vn
    obtain ⟨p, hp, e⟩ := List.mem_map.mp hi
    refine ⟨fun y => ?_, fun y hy => mem_bagV.mpr (((del_sub S i).map _).subset hy), ⟨p.2, fun y hy => ?_⟩, fun b hb => ?_, ⟨ih.wf, fun y hy hv => ih.sub y (mem_bagV.mp hy)⟩, ⟨ih.adj, ?_, ?_⟩, fun e he => ?_⟩
    · rw [vs_one, ih.vs, mem_bagV]
      exact ⟨fun q => q.elim (fun q => (ih.vs y).mp (BT.bag_vs (ih.sub y q))) id, .inr⟩
    · obtain ⟨q, hq, rfl⟩ := List.mem_map.mp (mem_bagV.mp hy)
      by_cases z : q.1 = i
      · refine .inr (fst_inj O.kn (show (i, q.2) ∈ S from by rw [← z]; exact hq) (show (i, p.2) ∈ S from by rw [← e]; exact hp))
      · exact .inl (List.mem_map.mpr ⟨q, mem_del.mpr ⟨hq, z⟩, rfl⟩)
    · rcases List.mem_cons.mp hb with rfl | q
      · exact ab
      · exact ih.asc b q
    · obtain ⟨z, hz⟩ := ih.near
      exact more_one (z := z) (ih.asc _ B.bag_pre) fun y hy => (hz y hy).imp mem_bagV.mpr id
    · exact more_one (z := 0) ab fun y hy => .inl (ih.sub y (mem_bagV.mp hy))
    · obtain ⟨b, hb, q⟩ := ih.edg e he
      exact ⟨b, List.mem_cons_of_mem _ hb, q⟩
  | @join t u S V E B S' V' E' B' h h' hS hV hE ih ih' =>
    have O := h.ok
    have ab : (bagV S).Pairwise (· < ·) := srtN_lt O.vn
    have s' : ∀ y ∈ bagV S, y ∈ B'.bag := fun y hy => ih'.sub y ((snd_iff hS y).mp (mem_bagV.mp hy))
    have s : ∀ y ∈ bagV S, y ∈ B.bag := fun y hy => ih.sub y (mem_bagV.mp hy)
    refine ⟨fun y => ?_, fun y hy => mem_bagV.mpr hy, ⟨0, fun y hy => .inl (mem_bagV.mp hy)⟩, fun b hb => ?_,
      ⟨ih'.wf, ih.wf, fun y hy _ => s' y hy, fun y hy _ => s y hy, fun y h1 h2 => mem_bagV.mpr (hV y ((ih.vs y).mp h2) ((ih'.vs y).mp h1))⟩, ⟨ih'.adj, ih.adj, ?_, ?_, ?_, ?_⟩, fun e he => ?_⟩
    · rw [vs_two, ih.vs, ih'.vs, List.mem_append, mem_restO]
      constructor
      · rintro (q | q | q)
        · exact .inl ((ih.vs y).mp (BT.bag_vs (s y q)))
        · by_cases m : y ∈ S'.map (·.2)
          · exact .inl ((ih.vs y).mp (BT.bag_vs (ih.sub y ((snd_iff hS y).mpr m))))
          · exact .inr ⟨q, m⟩
        · exact .inl q
      · rintro (q | ⟨q, _⟩)
        · exact .inr (.inr q)
        · exact .inr (.inl q)
    · rcases List.mem_cons.mp hb with rfl | q
      · exact ab
      · rcases List.mem_append.mp q with q | q
        · exact ih'.asc b q
        · exact ih.asc b q
    · obtain ⟨z, hz⟩ := ih'.near
      exact more_one (z := z) (ih'.asc _ B'.bag_pre) fun y hy => (hz y hy).imp (fun q => mem_bagV.mpr ((snd_iff hS y).mpr q)) id
    · exact more_one (z := 0) ab fun y hy => .inl (s' y hy)
    · obtain ⟨z, hz⟩ := ih.near
      exact more_one (z := z) (ih.asc _ B.bag_pre) fun y hy => (hz y hy).imp mem_bagV.mpr id
    · exact more_one (z := 0) ab fun y hy => .inl (s y hy)
    · rcases List.mem_append.mp he with q | q
      · obtain ⟨b, hb, q⟩ := ih.edg e q
        exact ⟨b, List.mem_cons_of_mem _ (List.mem_append_right _ hb), q⟩
      · obtain ⟨b, hb, q⟩ := ih'.edg e q
        exact ⟨b, List.mem_cons_of_mem _ (List.mem_append_left _ hb), q⟩
/-- a bag has at most as many vertices as there are labels -/
theorem I.lens {t S V E B} (h : I t S V E B) {k : Nat} (ok : ∀ s ∈ post t, okStp k s) : (∀ b ∈ B.pre, b.length ≤ k + 1) ∧ S.length ≤ k + 1 := by
  have sl : ∀ {t S V E B}, I t S V E B → (∀ s ∈ post t, okStp k s) → S.length ≤ k + 1 := fun {t S V E B} h ok => by
    obtain ⟨ps, hf, _⟩ := h.frame
    have := (frT_good ok hf).len
    simpa [srtN_len] using this
  refine ⟨?_, sl h ok⟩
  induction h with
  | empty => simp [BT.pre]
  | new h hi hx ih =>
    have a := sl (I.new h hi hx) ok
    intro b hb
    rcases List.mem_cons.mp hb with rfl | q
    · rw [bagV_len]; exact a
    · exact ih (fun s hs => ok s (by simp [post, hs])) b q
  | edge h hij hu hv hn ih =>
    have a := sl h fun s hs => ok s (by simp [post, hs])
    intro b hb
    rcases List.mem_cons.mp hb with rfl | q
    · rw [bagV_len]; exact a
    · exact ih (fun s hs => ok s (by simp [post, hs])) b q
  | forget h hi ih =>
    have a := sl h fun s hs => ok s (by simp [post, hs])
    intro b hb
    rcases List.mem_cons.mp hb with rfl | q
    · rw [bagV_len]; exact a
    · exact ih (fun s hs => ok s (by simp [post, hs])) b q
  | join h h' hS hV hE ih ih' =>
    have a := sl h fun s hs => ok s (by simp [post, hs])
    intro b hb
    rcases List.mem_cons.mp hb with rfl | q
    · rw [bagV_len]; exact a
    · rcases List.mem_append.mp q with q | q
      · exact ih' (fun s hs => ok s (by simp [post, hs])) b q
      · exact ih (fun s hs => ok s (by simp [post, hs])) b q
end SWM


/-! The tree of bags as two arrays. -/
namespace SWM
/-- the parents but the root's own, the root at o -/
def BT.tl : BT → Nat → List Int
  | .leaf _, _ => []
  | .one _ c, o => (o : Int) :: c.tl (o + 1)
  | .two _ c d, o => ((o : Int) :: c.tl (o + 1)) ++ ((o : Int) :: d.tl (o + 1 + c.size))
def BT.pars (B : BT) : List Int := (-1) :: B.tl 0
theorem BT.size_pos (B : BT) : 0 < B.size := by cases B <;> simp [size, pre]
theorem BT.size_one (b : List Nat) (c : BT) : (BT.one b c).size = c.size + 1 := by simp [size, pre]
theorem BT.size_two (b : List Nat) (c d : BT) : (BT.two b c d).size = c.size + d.size + 1 := by simp [size, pre]
theorem BT.tl_len : ∀ (B : BT) (o : Nat), (B.tl o).length + 1 = B.size
  | .leaf _, _ => rfl
  | .one b c, o => by simp [tl, size_one, c.tl_len]
  | .two b c d, o => by
    have h1 := c.tl_len (o + 1)
    have h2 := d.tl_len (o + 1 + c.size)
    simp [tl, size_two]
    omega
/-! ### the operands' lists of a tree -/
def opsT : Tr → Nat → List (List Nat)
  | .empty, _ => [[]]
  | .new _ t, s => opsT t s ++ [[s + (post t).length - 1]]
  | .edge _ _ t, s => opsT t s ++ [[s + (post t).length - 1]]
  | .forget _ t, s => opsT t s ++ [[s + (post t).length - 1]]
  | .join t u, s => opsT t s ++ (opsT u (s + (post t).length) ++ [[s + (post t).length - 1, s + (post t).length + (post u).length - 1]])
theorem post_pos (t : Tr) : 0 < (post t).length := by cases t <;> simp [post] <;> omega
theorem ops_append (a b : List Stp) : ∀ (st : List Nat) (i : Nat) (st' : List Nat) (x : List (List Nat)), (∀ c, ops (a ++ c) st i = x ++ ops c st' (i + a.length)) → ops (a ++ b) st i = x ++ ops b st' (i + a.length) := fun _ _ _ _ h => h b
theorem ops_post : ∀ (t : Tr) (c : List Stp) (st : List Nat) (s : Nat), ops (post t ++ c) st s = opsT t s ++ ops c (st ++ [s + (post t).length - 1]) (s + (post t).length)
  | .empty, c, st, s => by simp [post, ops, opsT, ar]
  | .new i t, c, st, s => by
    have := post_pos t
    rw [post, List.append_assoc, ops_post t]
    have e : s + (post t).length - 1 = s + ((post t).length - 1) := by omega
    simp [ops, opsT, ar, Nat.add_assoc]
  | .edge i j t, c, st, s => by
    rw [post, List.append_assoc, ops_post t]
    simp [ops, opsT, ar, Nat.add_assoc]
  | .forget i t, c, st, s => by
    rw [post, List.append_assoc, ops_post t]
    simp [ops, opsT, ar, Nat.add_assoc]
  | .join t u, c, st, s => by
    rw [post, List.append_assoc, ops_post t, List.append_assoc, ops_post u]
    have e : s + ((post t).length + ((post u).length + 1)) - 1 = s + ((post t).length + (post u).length) := by omega
    simp [ops, opsT, ar, Nat.add_assoc, e]
/-- the tree's bags have the tree's shape -/
inductive Shape : Tr → BT → Prop
  | empty {b} : Shape .empty (.leaf b)
  | new {i t b B} : Shape t B → Shape (.new i t) (.one b B)
  | edge {i j t b B} : Shape t B → Shape (.edge i j t) (.one b B)
  | forget {i t b B} : Shape t B → Shape (.forget i t) (.one b B)
  | join {t u b B B'} : Shape t B → Shape u B' → Shape (.join t u) (.two b B' B)
theorem I.shape {t S V E B} (h : I t S V E B) : Shape t B := by
  induction h with
  | empty => exact .empty
  | new _ _ _ ih => exact .new ih
  | edge _ _ _ _ _ ih => exact .edge ih
  | forget _ _ ih => exact .forget ih
  | join _ _ _ _ _ ih ih' => exact .join ih ih'
theorem Shape.size {t : Tr} {B : BT} (h : Shape t B) : B.size = (post t).length := by
  induction h with
  | empty => rfl
  | new _ ih => rw [BT.size_one, ih]; simp [post]
  | edge _ ih => rw [BT.size_one, ih]; simp [post]
  | forget _ ih => rw [BT.size_one, ih]; simp [post]
  | join _ _ ih ih' => rw [BT.size_two, ih, ih']; simp [post]; omega
theorem setAll_nil (P : List Int) (v : Int) : setAll P v [] = P := rfl
theorem set_at {X Y : List Int} {a v : Int} {i : Nat} (h : i = X.length) : (X ++ (a :: Y)).set i v = X ++ (v :: Y) := by subst h; simp
theorem parG_tree {N : Nat} : ∀ {t : Tr} {B : BT}, Shape t B → ∀ (s o : Nat) (rest : List (List Nat)) (X seg Y : List Int) (p : Int), o + (s + (post t).length) = N → X.length = o → seg.length + 1 = (post t).length →
    parG N (opsT t s ++ rest) s (X ++ (p :: seg) ++ Y) = parG N rest (s + (post t).length) (X ++ (p :: B.tl o) ++ Y) := by
  have one : ∀ {t : Tr} {B : BT} {s o : Nat} {rest : List (List Nat)} {X seg Y : List Int} {p : Int}, (∀ (s o : Nat) (rest : List (List Nat)) (X seg Y : List Int) (p : Int), o + (s + (post t).length) = N → X.length = o → seg.length + 1 = (post t).length →
      parG N (opsT t s ++ rest) s (X ++ (p :: seg) ++ Y) = parG N rest (s + (post t).length) (X ++ (p :: B.tl o) ++ Y)) →
      o + (s + ((post t).length + 1)) = N → X.length = o → seg.length + 1 = (post t).length + 1 →
      parG N (opsT t s ++ ([s + (post t).length - 1] :: rest)) s (X ++ (p :: seg) ++ Y) = parG N rest (s + (post t).length + 1) (X ++ (p :: ((o : Int) :: B.tl (o + 1))) ++ Y) := by
    intro t B s o rest X seg Y p ih h1 h2 h3
    have pos := post_pos t
    match seg, h3 with
    | q :: seg, h3 =>
      have e1 : X ++ (p :: q :: seg) ++ Y = (X ++ [p]) ++ (q :: seg) ++ Y := by simp
      rw [e1, ih s (o + 1) ([s + (post t).length - 1] :: rest) (X ++ [p]) seg Y q (by omega) (by simp [h2]) (by simpa using h3)]
      simp only [parG, List.map_cons, List.map_nil, setAll]
      have e2 : N - 1 - (s + (post t).length - 1) = (X ++ [p]).length := by rw [List.length_append, List.length_singleton]; omega
      have e3 : ((N - 1 - (s + (post t).length) : Nat) : Int) = (o : Int) := by omega
      have e4 : X ++ [p] ++ q :: B.tl (o + 1) ++ Y = (X ++ [p]) ++ (q :: (B.tl (o + 1) ++ Y)) := by simp
      rw [e3, e4, set_at e2]
      simp
    | [], h3 => simp only [List.length_nil] at h3; omega
  intro t B h
  induction h with
  | empty =>
    intro s o rest X seg Y p h1 h2 h3
    obtain rfl : seg = [] := by simpa [post] using h3
    simp [opsT, parG, setAll, post, BT.tl]
  | @new i t b B h ih =>
    intro s o rest X seg Y p h1 h2 h3
    simp only [post, List.length_append, List.length_singleton] at h1 h3
    have := one (rest := rest) (Y := Y) (p := p) ih h1 h2 h3
    simpa [opsT, post, BT.tl, Nat.add_assoc] using this
  | @edge i j t b B h ih =>
    intro s o rest X seg Y p h1 h2 h3
    simp only [post, List.length_append, List.length_singleton] at h1 h3
    have := one (rest := rest) (Y := Y) (p := p) ih h1 h2 h3
    simpa [opsT, post, BT.tl, Nat.add_assoc] using this
  | @forget i t b B h ih =>
    intro s o rest X seg Y p h1 h2 h3
    simp only [post, List.length_append, List.length_singleton] at h1 h3
    have := one (rest := rest) (Y := Y) (p := p) ih h1 h2 h3
    simpa [opsT, post, BT.tl, Nat.add_assoc] using this
  | @join t u b B B' h h' ih ih' =>
    intro s o rest X seg Y p h1 h2 h3
    simp only [post, List.length_append, List.length_singleton] at h1 h3
    have pt := post_pos t
    have pu := post_pos u
    have sz := h'.size
    obtain ⟨q', su, q, st, rfl, l1, l2⟩ : ∃ q' su q st, seg = (q' :: su) ++ (q :: st) ∧ su.length + 1 = (post u).length ∧ st.length + 1 = (post t).length := by
      have hA := List.take_append_drop (post u).length seg
      have la : (seg.take (post u).length).length = (post u).length := by rw [List.length_take]; omega
      have lb : (seg.drop (post u).length).length = (post t).length := by rw [List.length_drop]; omega
      match ha : seg.take (post u).length, hb : seg.drop (post u).length with
      | q' :: su, q :: st =>
        rw [ha] at la hA
        rw [hb] at lb hA
        exact ⟨q', su, q, st, hA.symm, by simpa using la, by simpa using lb⟩
      | [], _ => rw [ha] at la; simp at la; omega
      | _ :: _, [] => rw [hb] at lb; simp at lb; omega
    have e1 : X ++ (p :: ((q' :: su) ++ (q :: st))) ++ Y = (X ++ [p] ++ (q' :: su)) ++ (q :: st) ++ Y := by simp
    have e2 : opsT (.join t u) s ++ rest = opsT t s ++ (opsT u (s + (post t).length) ++ ([s + (post t).length - 1, s + (post t).length + (post u).length - 1] :: rest)) := by simp [opsT]
    rw [e1, e2, ih s (o + 1 + (post u).length) _ _ st Y q (by omega) (by simp; omega) l2]
    have e3 : (X ++ [p] ++ (q' :: su)) ++ (q :: B.tl (o + 1 + (post u).length)) ++ Y = (X ++ [p]) ++ (q' :: su) ++ ((q :: B.tl (o + 1 + (post u).length)) ++ Y) := by simp
    rw [e3, ih' (s + (post t).length) (o + 1) _ (X ++ [p]) su _ q' (by omega) (by simp [h2]) l1]
    simp only [parG, List.map_cons, List.map_nil, setAll]
    have tl1 := B'.tl_len (o + 1)
    have e4 : ((N - 1 - (s + (post t).length + (post u).length) : Nat) : Int) = (o : Int) := by omega
    have e5 : X ++ [p] ++ (q' :: B'.tl (o + 1)) ++ ((q :: B.tl (o + 1 + (post u).length)) ++ Y) = (X ++ [p] ++ (q' :: B'.tl (o + 1))) ++ (q :: (B.tl (o + 1 + (post u).length) ++ Y)) := by simp
    rw [e4, e5, set_at (by simp; omega)]
    have e6 : X ++ [p] ++ (q' :: B'.tl (o + 1)) ++ ((o : Int) :: (B.tl (o + 1 + (post u).length) ++ Y)) = (X ++ [p]) ++ (q' :: (B'.tl (o + 1) ++ ((o : Int) :: (B.tl (o + 1 + (post u).length) ++ Y)))) := by simp
    rw [e6, set_at (by simp; omega)]
    simp [post, BT.tl, sz, Nat.add_assoc]
theorem parsT_eq {t : Tr} {B : BT} (h : Shape t B) : parsT (post t) = B.pars := by
  unfold parsT BT.pars
  have pos := post_pos t
  have e : ops (post t) [] 0 = opsT t 0 := by simpa [ops] using ops_post t [] [] 0
  have r : List.replicate (post t).length (-1 : Int) = [] ++ ((-1) :: List.replicate ((post t).length - 1) (-1)) ++ [] := by
    match hp : (post t).length, pos with
    | n + 1, _ => simp [List.replicate_succ]
  rw [e, r]
  have := parG_tree (N := (post t).length) h 0 0 [] [] (List.replicate ((post t).length - 1) (-1)) [] (-1) (by omega) rfl (by simp; omega)
  simpa [parG] using this
end SWM


/-! The arrays of a tree of bags: pairs (bag, the bag above), tops, children. -/
namespace SWM
def BT.prT : BT → List (List Nat × List Nat)
  | .leaf _ => []
  | .one b c => (c.bag, b) :: c.prT
  | .two b c d => ((c.bag, b) :: c.prT) ++ ((d.bag, b) :: d.prT)
def BT.prA (B : BT) (a : List Nat) : List (List Nat × List Nat) := (B.bag, a) :: B.prT
theorem BT.prA_len (B : BT) (a : List Nat) : (B.prA a).length = B.size := by
  have h : ∀ B : BT, B.prT.length + 1 = B.size := fun B => by
    induction B with
    | leaf b => rfl
    | one b c ih => simp [prT, size_one, ih]
    | two b c d ih ih' => simp [prT, size_two]; omega
  simp [prA, h]
theorem BT.pre_eq (B : BT) (a : List Nat) : (B.prA a).map (·.1) = B.pre := by
  have h : ∀ B : BT, B.bag :: B.prT.map (·.1) = B.pre := fun B => by
    induction B with
    | leaf b => rfl
    | one b c ih =>
      show b :: (c.bag :: c.prT.map (·.1)) = b :: c.pre
      rw [ih]
    | two b c d ih ih' =>
      have e : (BT.two b c d).prT.map (·.1) = (c.bag :: c.prT.map (·.1)) ++ (d.bag :: d.prT.map (·.1)) := by simp [prT]
      show b :: (BT.two b c d).prT.map (·.1) = b :: (c.pre ++ d.pre)
      rw [e, ih, ih']
  simpa [prA] using h B
theorem BT.tl_get : ∀ (B : BT) (o j : Nat), j + 1 < B.size → ∃ x : Nat, (B.tl o)[j]? = some (x : Int) ∧ o ≤ x ∧ x ≤ o + j
  | .leaf b, o, j, h => by simp [size, pre] at h
  | .one b c, o, j, h => by
    rw [size_one] at h
    match j with
    | 0 => exact ⟨o, rfl, Nat.le_refl _, Nat.le_refl _⟩
    | j + 1 =>
      obtain ⟨x, h1, h2, h3⟩ := c.tl_get (o + 1) j (by omega)
      exact ⟨x, by simpa [tl] using h1, by omega, by omega⟩
  | .two b c d, o, j, h => by
    rw [size_two] at h
    have l := c.tl_len (o + 1)
    by_cases q : j < c.size
    · have e : ((BT.two b c d).tl o)[j]? = ((o : Int) :: c.tl (o + 1))[j]? := by
        simp only [tl]
        rw [List.getElem?_append_left (by simp; omega)]
      rw [e]
      match j with
      | 0 => exact ⟨o, rfl, Nat.le_refl _, Nat.le_refl _⟩
      | j + 1 =>
        obtain ⟨x, h1, h2, h3⟩ := c.tl_get (o + 1) j (by omega)
        exact ⟨x, by simpa using h1, by omega, by omega⟩
    · have e : ((BT.two b c d).tl o)[j]? = ((o : Int) :: d.tl (o + 1 + c.size))[j - c.size]? := by
        simp only [tl]
        rw [List.getElem?_append_right (by simp; omega)]
        congr 1
        simp
        omega
      rw [e]
      match hj : j - c.size with
      | 0 => exact ⟨o, rfl, Nat.le_refl _, by omega⟩
      | i + 1 =>
        obtain ⟨x, h1, h2, h3⟩ := d.tl_get (o + 1 + c.size) i (by omega)
        exact ⟨x, by simpa using h1, by omega, by omega⟩
theorem bagAt_mid {X Y : List (List Nat)} {b : List Nat} {i : Nat} (h : i = X.length) : bagAt (X ++ (b :: Y)) i = b := by subst h; simp [bagAt]
theorem parOf_mid {X Y : List Int} {p : Int} {i : Nat} (h : i = X.length) : parOf (X ++ (p :: Y)) i = p.toNat := by subst h; simp [parOf]
theorem pre_cons (B : BT) : ∃ r, B.pre = B.bag :: r := by cases B <;> exact ⟨_, rfl⟩
/-- the pairs of a part of the arrays -/
theorem pairs_seg : ∀ (B : BT) (o : Nat) (X Y : List (List Nat)) (PX PY : List Int) (p : Int), X.length = o → PX.length = o →
    (List.range B.size).map (fun j => (bagAt (X ++ (B.pre ++ Y)) (o + j), bagAt (X ++ (B.pre ++ Y)) (parOf (PX ++ ((p :: B.tl o) ++ PY)) (o + j)))) = B.prA (bagAt (X ++ (B.pre ++ Y)) p.toNat)
  | .leaf b, o, X, Y, PX, PY, p, h1, h2 => by
    have a1 : bagAt (X ++ ((BT.leaf b).pre ++ Y)) o = b := by simpa [BT.pre] using bagAt_mid (b := b) (Y := Y) h1.symm
    have a2 : parOf (PX ++ ((p :: (BT.leaf b).tl o) ++ PY)) o = p.toNat := by simpa [BT.tl] using parOf_mid (p := p) (Y := PY) h2.symm
    simp [BT.size, BT.pre, BT.prA, BT.bag, BT.prT] at *
    simp [a1, a2]
  | .one b c, o, X, Y, PX, PY, p, h1, h2 => by
    have a1 : bagAt (X ++ ((BT.one b c).pre ++ Y)) o = b := by simpa [BT.pre] using bagAt_mid (b := b) (Y := c.pre ++ Y) h1.symm
    have a2 : parOf (PX ++ ((p :: (BT.one b c).tl o) ++ PY)) o = p.toNat := by simpa [BT.tl] using parOf_mid (p := p) (Y := (BT.one b c).tl o ++ PY) h2.symm
    have ih := pairs_seg c (o + 1) (X ++ [b]) Y (PX ++ [p]) PY (o : Int) (by simp [h1]) (by simp [h2])
    have e1 : X ++ [b] ++ (c.pre ++ Y) = X ++ ((BT.one b c).pre ++ Y) := by simp [BT.pre]
    have e2 : PX ++ [p] ++ (((o : Int) :: c.tl (o + 1)) ++ PY) = PX ++ ((p :: (BT.one b c).tl o) ++ PY) := by simp [BT.tl]
    rw [e1, e2] at ih
    have e3 : ((o : Int)).toNat = o := by simp
    rw [e3, a1] at ih
    rw [BT.size_one, List.range_succ_eq_map, List.map_cons, List.map_map]
    simp only [Nat.add_zero, a1, a2]
    have e4 : (fun j => (bagAt (X ++ ((BT.one b c).pre ++ Y)) (o + j), bagAt (X ++ ((BT.one b c).pre ++ Y)) (parOf (PX ++ ((p :: (BT.one b c).tl o) ++ PY)) (o + j)))) ∘ Nat.succ =
        fun j => (bagAt (X ++ ((BT.one b c).pre ++ Y)) (o + 1 + j), bagAt (X ++ ((BT.one b c).pre ++ Y)) (parOf (PX ++ ((p :: (BT.one b c).tl o) ++ PY)) (o + 1 + j))) := by
      funext j
      simp only [Function.comp]
      rw [show o + j.succ = o + 1 + j by omega]
    rw [e4, ih]
    rfl
  | .two b c d, o, X, Y, PX, PY, p, h1, h2 => by
    have a1 : bagAt (X ++ ((BT.two b c d).pre ++ Y)) o = b := by simpa [BT.pre] using bagAt_mid (b := b) (Y := c.pre ++ (d.pre ++ Y)) h1.symm
    have a2 : parOf (PX ++ ((p :: (BT.two b c d).tl o) ++ PY)) o = p.toNat := by simpa [BT.tl] using parOf_mid (p := p) (Y := (BT.two b c d).tl o ++ PY) h2.symm
    have l1 := c.tl_len (o + 1)
    have ih := pairs_seg c (o + 1) (X ++ [b]) (d.pre ++ Y) (PX ++ [p]) (((o : Int) :: d.tl (o + 1 + c.size)) ++ PY) (o : Int) (by simp [h1]) (by simp [h2])
    have ih' := pairs_seg d (o + 1 + c.size) (X ++ (b :: c.pre)) Y (PX ++ (p :: ((o : Int) :: c.tl (o + 1)))) PY (o : Int) (by simp [h1, BT.size]; omega) (by simp [h2]; omega)
    have e1 : X ++ [b] ++ (c.pre ++ (d.pre ++ Y)) = X ++ ((BT.two b c d).pre ++ Y) := by simp [BT.pre]
    have e1' : X ++ (b :: c.pre) ++ (d.pre ++ Y) = X ++ ((BT.two b c d).pre ++ Y) := by simp [BT.pre]
    have e2 : PX ++ [p] ++ (((o : Int) :: c.tl (o + 1)) ++ (((o : Int) :: d.tl (o + 1 + c.size)) ++ PY)) = PX ++ ((p :: (BT.two b c d).tl o) ++ PY) := by simp [BT.tl]
    have e2' : PX ++ (p :: ((o : Int) :: c.tl (o + 1))) ++ (((o : Int) :: d.tl (o + 1 + c.size)) ++ PY) = PX ++ ((p :: (BT.two b c d).tl o) ++ PY) := by simp [BT.tl]
    rw [e1, e2] at ih
    rw [e1', e2'] at ih'
    have e3 : ((o : Int)).toNat = o := by simp
    rw [e3, a1] at ih ih'
    rw [BT.size_two, List.range_succ_eq_map, List.map_cons, List.map_map, List.range_add, List.map_append, List.map_map]
    simp only [Nat.add_zero, a1, a2]
    have e4 : (fun j => (bagAt (X ++ ((BT.two b c d).pre ++ Y)) (o + j), bagAt (X ++ ((BT.two b c d).pre ++ Y)) (parOf (PX ++ ((p :: (BT.two b c d).tl o) ++ PY)) (o + j)))) ∘ Nat.succ =
        fun j => (bagAt (X ++ ((BT.two b c d).pre ++ Y)) (o + 1 + j), bagAt (X ++ ((BT.two b c d).pre ++ Y)) (parOf (PX ++ ((p :: (BT.two b c d).tl o) ++ PY)) (o + 1 + j))) := by
      funext j
      simp only [Function.comp]
      rw [show o + j.succ = o + 1 + j by omega]
    have e5 : ((fun j => (bagAt (X ++ ((BT.two b c d).pre ++ Y)) (o + j), bagAt (X ++ ((BT.two b c d).pre ++ Y)) (parOf (PX ++ ((p :: (BT.two b c d).tl o) ++ PY)) (o + j)))) ∘ Nat.succ) ∘ (fun x => c.size + x) =
        fun j => (bagAt (X ++ ((BT.two b c d).pre ++ Y)) (o + 1 + c.size + j), bagAt (X ++ ((BT.two b c d).pre ++ Y)) (parOf (PX ++ ((p :: (BT.two b c d).tl o) ++ PY)) (o + 1 + c.size + j))) := by
      funext j
      simp only [Function.comp]
      rw [show o + (c.size + j).succ = o + 1 + c.size + j by omega]
    rw [e5, e4, ih, ih']
    rfl
/-- all pairs (bag, the bag above): above the root there is none -/
theorem pairs_all (B : BT) : (List.range B.pre.length).map (fun i => (bagAt B.pre i, aboveOf B.pre B.pars i)) = B.prA [] := by
  have h := pairs_seg B 0 [] [] [] [] (-1) rfl rfl
  simp only [List.nil_append, List.append_nil, Nat.zero_add] at h
  have sp := B.size_pos
  obtain ⟨n, hn⟩ : ∃ n, B.size = n + 1 := ⟨B.size - 1, by omega⟩
  have hn' : B.pre.length = n + 1 := hn
  rw [hn'] 
  rw [hn, List.range_succ_eq_map, List.map_cons, List.map_map] at h
  rw [List.range_succ_eq_map, List.map_cons, List.map_map]
  unfold BT.prA at h ⊢
  obtain ⟨h1, h2⟩ := List.cons.inj h
  refine List.cons_eq_cons.mpr ⟨?_, ?_⟩
  · obtain ⟨r, hr⟩ := pre_cons B
    refine Prod.ext ?_ rfl
    simp [hr, bagAt]
  · rw [← h2]
    refine List.map_congr_left fun j _ => ?_
    simp only [Function.comp, aboveOf, BT.pars]
    rw [if_neg (Nat.succ_ne_zero j)]
theorem pars_len (B : BT) : B.pars.length = B.pre.length := by
  have := B.tl_len 0
  simp [BT.pars, this]
  rfl
/-! ### tops -/
def cntT (v : Nat) (l : List (List Nat × List Nat)) : Nat := (l.filter fun q => decide (v ∈ q.1 ∧ ¬ v ∈ q.2)).length
theorem cntT_app (v : Nat) (l m : List (List Nat × List Nat)) : cntT v (l ++ m) = cntT v l + cntT v m := by simp [cntT]
theorem cntT_cons (v : Nat) (b a : List Nat) (l : List (List Nat × List Nat)) : cntT v ((b, a) :: l) = (if v ∈ b ∧ ¬ v ∈ a then 1 else 0) + cntT v l := by
  unfold cntT
  rw [List.filter_cons]
  by_cases h : v ∈ b ∧ ¬ v ∈ a
  · simp [h]; omega
  · have : decide (v ∈ b ∧ ¬ v ∈ a) = false := decide_eq_false h
    simp only [this, if_neg h]
    simp
theorem tops_tree (v : Nat) : ∀ (B : BT), B.WF → ∀ a, cntT v (B.prA a) ≤ 1 ∧ (¬ v ∈ B.vs → cntT v (B.prA a) = 0) ∧ (v ∈ a → (v ∈ B.vs → v ∈ B.bag) → cntT v (B.prA a) = 0)
  | .leaf b, _, a => by
    unfold BT.prA
    rw [cntT_cons]
    have e : cntT v (BT.leaf b).prT = 0 := rfl
    rw [e]
    refine ⟨by split <;> omega, fun h => ?_, fun h _ => ?_⟩
    · rw [if_neg fun q => h (BT.bag_vs q.1)]
    · rw [if_neg fun q => q.2 h]
  | .one b c, W, a => by
    obtain ⟨i1, i2, i3⟩ := tops_tree v c W.1 b
    have e : cntT v ((BT.one b c).prA a) = (if v ∈ b ∧ ¬ v ∈ a then 1 else 0) + cntT v (c.prA b) := by unfold BT.prA; rw [cntT_cons]; rfl
    rw [e]
    by_cases m : v ∈ b
    · have z := i3 m (W.2 v m)
      rw [z]
      refine ⟨by split <;> omega, fun h => absurd (vs_one.mpr (.inl m)) h, fun h _ => ?_⟩
      rw [if_neg fun q => q.2 h]
    · rw [if_neg fun q => m q.1]
      refine ⟨by omega, fun h => ?_, fun _ h => ?_⟩
      · rw [i2 fun q => h (vs_one.mpr (.inr q))]
      · rw [i2 fun q => m (h (vs_one.mpr (.inr q)))]
  | .two b c d, W, a => by
    obtain ⟨i1, i2, i3⟩ := tops_tree v c W.1 b
    obtain ⟨j1, j2, j3⟩ := tops_tree v d W.2.1 b
    have e : cntT v ((BT.two b c d).prA a) = (if v ∈ b ∧ ¬ v ∈ a then 1 else 0) + (cntT v (c.prA b) + cntT v (d.prA b)) := by
      rw [← cntT_app]
      unfold BT.prA
      rw [cntT_cons]
      rfl
    rw [e]
    by_cases m : v ∈ b
    · rw [i3 m (W.2.2.1 v m), j3 m (W.2.2.2.1 v m)]
      refine ⟨by split <;> omega, fun h => absurd (vs_two.mpr (.inl m)) h, fun h _ => ?_⟩
      rw [if_neg fun q => q.2 h]
    · rw [if_neg fun q => m q.1]
      have one : cntT v (c.prA b) = 0 ∨ cntT v (d.prA b) = 0 := by
        by_cases q : v ∈ c.vs
        · exact .inr (j2 fun z => m (W.2.2.2.2 v q z))
        · exact .inl (i2 q)
      refine ⟨by omega, fun h => ?_, fun _ h => ?_⟩
      · rw [i2 fun q => h (vs_two.mpr (.inr (.inl q))), j2 fun q => h (vs_two.mpr (.inr (.inr q)))]
      · rw [i2 fun q => m (h (vs_two.mpr (.inr (.inl q)))), j2 fun q => m (h (vs_two.mpr (.inr (.inr q))))]
theorem tops_eq (B : BT) (v : Nat) : tops B.pre B.pars v = cntT v (B.prA []) := by
  rw [← pairs_all]
  unfold tops cntT
  rw [List.filter_map, List.length_map]
  congr 1
  refine List.filter_congr fun i _ => ?_
  unfold isTop aboveOf
  simp only [Function.comp]
  by_cases h : i = 0
  · simp [h]
  · simp [h]
/-! ### a term's bags are a decomposition of its graph -/
theorem dec_of {B : BT} {S V E : List _} {n : Nat} (k : BagOk S V E B) (hV : V = List.range n) (es : List (Nat × Nat)) (hes : ∀ e ∈ es, ∃ e0 ∈ E, e = sp e0) : Dec n es B.pre B.pars := by
  subst hV
  obtain ⟨r, hr⟩ := pre_cons B
  have mem : ∀ b ∈ B.pre, ∀ v ∈ b, v < n := fun b hb v hv => List.mem_range.mp ((k.vs v).mp (List.mem_flatten.mpr ⟨b, hb, hv⟩))
  refine ⟨by rw [hr]; simp, pars_len B, mem, k.asc, rfl, fun i h1 h2 => ?_, fun v hv => ?_, fun e he => ?_, fun v _ => ?_⟩
  · obtain ⟨j, rfl⟩ : ∃ j, i = j + 1 := ⟨i - 1, by omega⟩
    obtain ⟨x, h3, h4, h5⟩ := B.tl_get 0 j h2
    exact ⟨x, by simpa [BT.pars] using h3, by omega⟩
  · obtain ⟨b, hb, q⟩ := List.mem_flatten.mp ((k.vs v).mpr (List.mem_range.mpr hv))
    exact ⟨b, hb, q⟩
  · obtain ⟨e0, h0, rfl⟩ := hes e he
    obtain ⟨b, hb, q1, q2⟩ := k.edg e0 h0
    rcases sp_cases e0 with z | z
    · exact ⟨b, hb, by rw [z]; exact ⟨q1, q2⟩⟩
    · exact ⟨b, hb, by rw [z]; exact ⟨q2, q1⟩⟩
  · rw [tops_eq]
    exact (tops_tree v B k.wf []).1
end SWM


/-! The children, and the steps of all bags. -/
namespace SWM
theorem mem_kids {P : List Int} {n i c : Nat} : c ∈ kids P n i ↔ c < n ∧ 0 < c ∧ parOf P c = i := by unfold kids; rw [List.mem_filter, List.mem_range]; simp
theorem kids_lt (P : List Int) (n i : Nat) : (kids P n i).Pairwise (· < ·) := (range_lt n).filter _
/-- a part of the parents' array is that of the tree B at o -/
structure Seg (P : List Int) (N : Nat) (B : BT) (o : Nat) : Prop where
  inn : o + B.size ≤ N
  root : o = 0 ∨ parOf P o < o
  seg : ∀ j, j + 1 < B.size → P[o + 1 + j]? = (B.tl o)[j]?
  out : ∀ c, 0 < c → c < N → (c < o ∨ o + B.size ≤ c) → (parOf P c < o ∨ o + B.size ≤ parOf P c)
theorem parOf_get {P : List Int} {i x : Nat} (h : P[i]? = some (x : Int)) : parOf P i = x := by
  unfold parOf
  rw [List.getD_eq_getElem?_getD, h]
  simp
theorem Seg.inside {P : List Int} {N : Nat} {B : BT} {o : Nat} (S : Seg P N B o) {c : Nat} (h1 : o < c) (h2 : c < o + B.size) : o ≤ parOf P c ∧ parOf P c < c := by
  obtain ⟨j, rfl⟩ : ∃ j, c = o + 1 + j := ⟨c - o - 1, by omega⟩
  obtain ⟨x, h3, h4, h5⟩ := B.tl_get o j (by omega)
  rw [← S.seg j (by omega)] at h3
  rw [parOf_get h3]
  omega
theorem Seg.one {P : List Int} {N : Nat} {b : List Nat} {c : BT} {o : Nat} (S : Seg P N (.one b c) o) : parOf P (o + 1) = o ∧ Seg P N c (o + 1) := by
  have sz := BT.size_one b c
  have pc := c.size_pos
  have hp : parOf P (o + 1) = o := by
    have := S.seg 0 (by omega)
    exact parOf_get (x := o) (by rw [show o + 1 = o + 1 + 0 from rfl, this]; rfl)
  refine ⟨hp, by have := S.inn; omega, .inr (by omega), fun j hj => ?_, fun c' h1 h2 h3 => ?_⟩
  · have := S.seg (j + 1) (by omega)
    rw [show o + 1 + 1 + j = o + 1 + (j + 1) by omega, this]
    simp [BT.tl]
  · rcases h3 with h3 | h3
    · by_cases e : c' = o
      · subst e
        rcases S.root with q | q
        · omega
        · omega
      · have := S.out c' h1 h2 (.inl (by omega))
        omega
    · have := S.out c' h1 h2 (.inr (by omega))
      omega
theorem Seg.two {P : List Int} {N : Nat} {b : List Nat} {c d : BT} {o : Nat} (S : Seg P N (.two b c d) o) :
    (parOf P (o + 1) = o ∧ Seg P N c (o + 1)) ∧ (parOf P (o + 1 + c.size) = o ∧ Seg P N d (o + 1 + c.size)) := by
  have sz := BT.size_two b c d
  have pc := c.size_pos
  have pd := d.size_pos
  have lc := c.tl_len (o + 1)
  have inn := S.inn
  have hp : parOf P (o + 1) = o := by
    have := S.seg 0 (by omega)
    exact parOf_get (x := o) (by rw [show o + 1 = o + 1 + 0 from rfl, this]; rfl)
  have hq : parOf P (o + 1 + c.size) = o := by
    have := S.seg c.size (by omega)
    refine parOf_get (x := o) ?_
    rw [this]
    simp only [BT.tl]
    rw [List.getElem?_append_right (by simp; omega)]
    have e : c.size - ((o : Int) :: c.tl (o + 1)).length = 0 := by simp; omega
    rw [e]
    rfl
  have sd : ∀ j, j + 1 < d.size → P[o + 1 + c.size + 1 + j]? = (d.tl (o + 1 + c.size))[j]? := fun j hj => by
    have := S.seg (c.size + 1 + j) (by omega)
    rw [show o + 1 + c.size + 1 + j = o + 1 + (c.size + 1 + j) by omega, this]
    simp only [BT.tl]
    rw [List.getElem?_append_right (by simp; omega)]
    have e : c.size + 1 + j - ((o : Int) :: c.tl (o + 1)).length = j + 1 := by simp; omega
    rw [e]
    simp
  have sc : ∀ j, j + 1 < c.size → P[o + 1 + 1 + j]? = (c.tl (o + 1))[j]? := fun j hj => by
    have := S.seg (j + 1) (by omega)
    rw [show o + 1 + 1 + j = o + 1 + (j + 1) by omega, this]
    simp only [BT.tl]
    rw [List.getElem?_append_left (by simp; omega)]
    simp
  have inD : ∀ c', o + 1 + c.size ≤ c' → c' < o + 1 + c.size + d.size → parOf P c' = o ∨ o + 1 + c.size ≤ parOf P c' := fun c' h1 h2 => by
    by_cases e : c' = o + 1 + c.size
    · exact .inl (by rw [e]; exact hq)
    · obtain ⟨j, rfl⟩ : ∃ j, c' = o + 1 + c.size + 1 + j := ⟨c' - (o + 1 + c.size) - 1, by omega⟩
      obtain ⟨x, h3, h4, h5⟩ := d.tl_get (o + 1 + c.size) j (by omega)
      rw [← sd j (by omega)] at h3
      rw [parOf_get h3]
      omega
  have inC : ∀ c', o + 1 ≤ c' → c' < o + 1 + c.size → o ≤ parOf P c' ∧ parOf P c' < o + 1 + c.size := fun c' h1 h2 => by
    have := S.inside (c := c') (by omega) (by omega)
    omega
  refine ⟨⟨hp, by omega, .inr (by omega), sc, fun c' h1 h2 h3 => ?_⟩, ⟨hq, by omega, .inr (by omega), sd, fun c' h1 h2 h3 => ?_⟩⟩
  · rcases h3 with h3 | h3
    · by_cases e : c' = o
      · subst e
        rcases S.root with q | q <;> omega
      · have := S.out c' h1 h2 (.inl (by omega))
        omega
    · by_cases q : c' < o + 1 + c.size + d.size
      · have := inD c' h3 q
        omega
      · have := S.out c' h1 h2 (.inr (by omega))
        omega
  · rcases h3 with h3 | h3
    · by_cases e : c' = o
      · subst e
        rcases S.root with q | q <;> omega
      · by_cases q : c' < o
        · have := S.out c' h1 h2 (.inl q)
          omega
        · have := inC c' (by omega) (by omega)
          omega
    · have := S.out c' h1 h2 (.inr (by omega))
      omega
theorem kids_leaf {P : List Int} {N : Nat} {b : List Nat} {o : Nat} (S : Seg P N (.leaf b) o) : kids P N o = [] := by
  refine lt_ext (kids_lt _ _ _) .nil fun c => ?_
  rw [mem_kids]
  refine ⟨fun ⟨h1, h2, h3⟩ => ?_, fun h => by simp at h⟩
  have sz : (BT.leaf b).size = 1 := rfl
  by_cases e : c = o
  · subst e
    rcases S.root with q | q <;> omega
  · have := S.out c h2 h1 (by omega)
    omega
theorem kids_one {P : List Int} {N : Nat} {b : List Nat} {c : BT} {o : Nat} (S : Seg P N (.one b c) o) : kids P N o = [o + 1] := by
  obtain ⟨hp, Sc⟩ := S.one
  have sz := BT.size_one b c
  have pc := c.size_pos
  have inn := S.inn
  refine lt_ext (kids_lt _ _ _) (by simp) fun c' => ?_
  rw [mem_kids, List.mem_singleton]
  refine ⟨fun ⟨h1, h2, h3⟩ => ?_, fun h => by subst h; exact ⟨by omega, by omega, hp⟩⟩
  by_cases e : c' = o
  · subst e
    rcases S.root with q | q <;> omega
  · by_cases q : o + 1 < c' ∧ c' < o + 1 + c.size
    · have := Sc.inside q.1 q.2
      omega
    · by_cases z : c' = o + 1
      · exact z
      · have := S.out c' h2 h1 (by omega)
        omega
theorem kids_two {P : List Int} {N : Nat} {b : List Nat} {c d : BT} {o : Nat} (S : Seg P N (.two b c d) o) : kids P N o = [o + 1, o + 1 + c.size] := by
  obtain ⟨⟨hp, Sc⟩, hq, Sd⟩ := S.two
  have sz := BT.size_two b c d
  have pc := c.size_pos
  have pd := d.size_pos
  have inn := S.inn
  refine lt_ext (kids_lt _ _ _) (by simp; omega) fun c' => ?_
  rw [mem_kids]
  simp only [List.mem_cons, List.mem_singleton, List.not_mem_nil, or_false]
  refine ⟨fun ⟨h1, h2, h3⟩ => ?_, fun h => h.elim (fun e => by subst e; exact ⟨by omega, by omega, hp⟩) fun e => by subst e; exact ⟨by omega, by omega, hq⟩⟩
  by_cases e : c' = o
  · subst e
    rcases S.root with q | q <;> omega
  · by_cases q : o + 1 < c' ∧ c' < o + 1 + c.size
    · have := Sc.inside q.1 q.2
      omega
    · by_cases q' : o + 1 + c.size < c' ∧ c' < o + 1 + c.size + d.size
      · have := Sd.inside q'.1 q'.2
        omega
      · by_cases z : c' = o + 1 ∨ c' = o + 1 + c.size
        · exact z
        · have := S.out c' h2 h1 (by omega)
          omega
theorem seg_all (B : BT) : Seg B.pars B.pre.length B 0 := by
  refine ⟨by simp [BT.size], .inl rfl, fun j hj => ?_, fun c h1 h2 h3 => ?_⟩
  · rw [show 0 + 1 + j = j + 1 by omega]
    simp [BT.pars]
  · have : B.size = B.pre.length := rfl
    omega
/-! ### the steps of all bags -/
section
variable (L : Nat → Nat) (row : Nat → List (Nat × Nat))
def tm : BT → Nat → SO
  | .leaf b, o => doSO L b (row o) []
  | .one b c, o => doSO L b (row o) [(c.bag, tm c (o + 1))]
  | .two b c d, o => doSO L b (row o) [(c.bag, tm c (o + 1)), (d.bag, tm d (o + 1 + c.size))]
def tms : BT → Nat → List SO
  | .leaf b, o => [tm L row (.leaf b) o]
  | .one b c, o => tm L row (.one b c) o :: tms c (o + 1)
  | .two b c d, o => tm L row (.two b c d) o :: (tms c (o + 1) ++ tms d (o + 1 + c.size))
end
theorem tms_len (L : Nat → Nat) (row : Nat → List (Nat × Nat)) : ∀ (B : BT) (o : Nat), (tms L row B o).length = B.size
  | .leaf b, o => rfl
  | .one b c, o => by simp [tms, tms_len L row c, BT.size_one]
  | .two b c d, o => by simp [tms, tms_len L row c, tms_len L row d, BT.size_two]
theorem tms_zero (L : Nat → Nat) (row : Nat → List (Nat × Nat)) (B : BT) (o : Nat) : (tms L row B o)[0]? = some (tm L row B o) := by cases B <;> rfl
/-- R tells the steps of the part's bags -/
def Tells (L : Nat → Nat) (row : Nat → List (Nat × Nat)) (R : Nat → SO) (B : BT) (o : Nat) : Prop := ∀ j, j < B.size → (tms L row B o)[j]? = some (R (o + j))
/-- each is made of its children's -/
theorem tms_eq {L : Nat → Nat} {row : Nat → List (Nat × Nat)} {R : Nat → SO} {G : List (List Nat)} {P : List Int} {N : Nat} : ∀ {B : BT} {o : Nat}, Seg P N B o → (∀ j, j < B.size → B.pre[j]? = some (bagAt G (o + j))) → Tells L row R B o →
    ∀ j, j < B.size → R (o + j) = doSO L (bagAt G (o + j)) (row (o + j)) ((kids P N (o + j)).map fun c => (bagAt G c, R c))
  | .leaf b, o, S, hG, hR, j, hj => by
    obtain rfl : j = 0 := by simp [BT.size, BT.pre] at hj; exact hj
    have h1 := hR 0 hj
    have h2 := hG 0 hj
    rw [tms_zero] at h1
    rw [Nat.add_zero] at *
    rw [kids_leaf S, ← Option.some.inj h1]
    have e : b = bagAt G o := by simpa [BT.pre] using h2
    simp only [tm, List.map_nil]
    rw [← e]
  | .one b c, o, S, hG, hR, j, hj => by
    obtain ⟨hp, Sc⟩ := S.one
    have sz := BT.size_one b c
    have pc := c.size_pos
    have cG : ∀ j, j < c.size → c.pre[j]? = some (bagAt G (o + 1 + j)) := fun j h => by
      have := hG (j + 1) (by omega)
      rw [show o + (j + 1) = o + 1 + j by omega] at this
      simpa [BT.pre] using this
    have cR : Tells L row R c (o + 1) := fun j h => by
      have := hR (j + 1) (by omega)
      rw [show o + (j + 1) = o + 1 + j by omega] at this
      simpa [tms] using this
    match j with
    | 0 =>
      have h1 := hR 0 hj
      have h2 := hG 0 hj
      have h3 := cR 0 pc
      have h4 := cG 0 pc
      obtain ⟨r, hr⟩ := pre_cons c
      rw [tms_zero] at h1 h3
      rw [Nat.add_zero] at *
      rw [kids_one S, ← Option.some.inj h1]
      have e : b = bagAt G o := by simpa [BT.pre] using h2
      have e2 : c.bag = bagAt G (o + 1) := by simpa [hr] using h4
      simp only [tm, List.map_cons, List.map_nil]
      rw [← e, ← e2, ← Option.some.inj h3]
    | j + 1 =>
      have := tms_eq Sc cG cR j (by omega)
      rw [show o + (j + 1) = o + 1 + j by omega]
      exact this
  | .two b c d, o, S, hG, hR, j, hj => by
    obtain ⟨⟨hp, Sc⟩, hq, Sd⟩ := S.two
    have sz := BT.size_two b c d
    have pc := c.size_pos
    have pd := d.size_pos
    have lc : c.pre.length = c.size := rfl
    have ltc := tms_len L row c (o + 1)
    have cG : ∀ j, j < c.size → c.pre[j]? = some (bagAt G (o + 1 + j)) := fun j h => by
      have := hG (j + 1) (by omega)
      rw [show o + (j + 1) = o + 1 + j by omega] at this
      simp only [BT.pre, List.getElem?_cons_succ] at this
      rwa [List.getElem?_append_left (by omega)] at this
    have cR : Tells L row R c (o + 1) := fun j h => by
      have := hR (j + 1) (by omega)
      rw [show o + (j + 1) = o + 1 + j by omega] at this
      simp only [tms, List.getElem?_cons_succ] at this
      rwa [List.getElem?_append_left (by omega)] at this
    have dG : ∀ j, j < d.size → d.pre[j]? = some (bagAt G (o + 1 + c.size + j)) := fun j h => by
      have := hG (c.size + j + 1) (by omega)
      rw [show o + (c.size + j + 1) = o + 1 + c.size + j by omega] at this
      simp only [BT.pre, List.getElem?_cons_succ] at this
      rwa [List.getElem?_append_right (by omega), lc, Nat.add_sub_cancel_left] at this
    have dR : Tells L row R d (o + 1 + c.size) := fun j h => by
      have := hR (c.size + j + 1) (by omega)
      rw [show o + (c.size + j + 1) = o + 1 + c.size + j by omega] at this
      simp only [tms, List.getElem?_cons_succ] at this
      rwa [List.getElem?_append_right (by omega), ltc, Nat.add_sub_cancel_left] at this
    match j with
    | 0 =>
      have h1 := hR 0 hj
      have h2 := hG 0 hj
      have h3 := cR 0 pc
      have h4 := cG 0 pc
      have h5 := dR 0 pd
      have h6 := dG 0 pd
      obtain ⟨r, hr⟩ := pre_cons c
      obtain ⟨r', hr'⟩ := pre_cons d
      rw [tms_zero] at h1 h3 h5
      rw [Nat.add_zero (o + 1 + c.size)] at h5 h6
      rw [Nat.add_zero (o + 1)] at h3 h4
      rw [Nat.add_zero o] at h1 h2 ⊢
      rw [kids_two S, ← Option.some.inj h1]
      have e : b = bagAt G o := by simpa [BT.pre] using h2
      have e2 : c.bag = bagAt G (o + 1) := by simpa [hr] using h4
      have e3 : d.bag = bagAt G (o + 1 + c.size) := by simpa [hr'] using h6
      simp only [tm, List.map_cons, List.map_nil]
      rw [← e, ← e2, ← e3, ← Option.some.inj h3, ← Option.some.inj h5]
    | j + 1 =>
      by_cases q : j < c.size
      · have := tms_eq Sc cG cR j q
        rw [show o + (j + 1) = o + 1 + j by omega]
        exact this
      · have := tms_eq Sd dG dR (j - c.size) (by omega)
        rw [show o + (j + 1) = o + 1 + c.size + (j - c.size) by omega]
        exact this
/-- the steps and the order of each bag's part -/
def resR (L : Nat → Nat) (row : Nat → List (Nat × Nat)) (B : BT) (i : Nat) : SO := ((tms L row B 0)[i]?).getD ([], [])
theorem resR_eq (L : Nat → Nat) (row : Nat → List (Nat × Nat)) (B : BT) {i : Nat} (h : i < B.pre.length) :
    resR L row B i = doSO L (bagAt B.pre i) (row i) ((kids B.pars B.pre.length i).map fun c => (bagAt B.pre c, resR L row B c)) := by
  have e : ∀ j, j < B.size → (tms L row B 0)[j]? = some (resR L row B (0 + j)) := fun j hj => by
    unfold resR
    rw [Nat.zero_add, List.getElem?_eq_getElem (by rw [tms_len]; exact hj)]
    rfl
  have g : ∀ j, j < B.size → B.pre[j]? = some (bagAt B.pre (0 + j)) := fun j hj => by
    unfold bagAt
    rw [Nat.zero_add, List.getD_eq_getElem?_getD, List.getElem?_eq_getElem hj]
    rfl
  have := tms_eq (seg_all B) g e i h
  rwa [Nat.zero_add] at this
theorem resR_zero (L : Nat → Nat) (row : Nat → List (Nat × Nat)) (B : BT) : resR L row B 0 = tm L row B 0 := by
  unfold resR
  rw [tms_zero]
  rfl
end SWM


/-! The labels. -/
namespace SWM
theorem leastF_spec (used : List Nat) : ∀ n l, (∀ j, j < l → j ∈ used) → (∀ j, j < leastF used n l → j ∈ used) ∧ leastF used n l ≤ l + n ∧ (leastF used n l < l + n → ¬ leastF used n l ∈ used)
  | 0, l, h => ⟨h, Nat.le_refl _, fun q => absurd q (Nat.lt_irrefl _)⟩
  | n + 1, l, h => by
    unfold leastF
    by_cases m : l ∈ used
    · rw [if_pos m]
      obtain ⟨a, b, c⟩ := leastF_spec used n (l + 1) fun j hj => by
        rcases Nat.lt_or_eq_of_le (Nat.le_of_lt_succ hj) with q | q
        · exact h j q
        · rw [q]; exact m
      exact ⟨a, by omega, fun q => c (by omega)⟩
    · rw [if_neg m]
      exact ⟨h, by omega, fun _ => m⟩
theorem least_below (used : List Nat) : ∀ j, j < least used → j ∈ used := (leastF_spec used used.length 0 (by omega)).1
theorem least_le (used : List Nat) : least used ≤ used.length := by have := (leastF_spec used used.length 0 (by omega)).2.1; unfold least; omega
theorem least_not (used : List Nat) : ¬ least used ∈ used := by
  intro q
  obtain ⟨a, b, c⟩ := leastF_spec used used.length 0 (by omega)
  by_cases h : least used < used.length
  · exact c (by unfold least at h; omega) q
  · have e : least used = used.length := by have := least_le used; omega
    have := List.Nodup.length_le_of_subset (List.nodup_range (n := used.length + 1)) (l₂ := used) fun j hj => by
      rw [List.mem_range] at hj
      rcases Nat.lt_or_eq_of_le (Nat.le_of_lt_succ hj) with z | z
      · exact least_below used j (by omega)
      · rw [z, ← e]; exact q
    simp at this
    omega
theorem least_uniq {used : List Nat} {l : Nat} (h : ¬ l ∈ used) (g : ∀ j, j < l → j ∈ used) : l = least used := by
  rcases Nat.lt_trichotomy l (least used) with q | q | q
  · exact absurd (least_below used l q) h
  · exact q
  · exact absurd (g _ q) (least_not used)
/-! ### one bag -/
def wOf (bag above pr : List Nat) : List Nat := bag.filter (fun v => decide (v ∈ above)) ++ pr.filter fun v => decide (¬ v ∈ above)
structure AInv (K : Nat) (m : List (Nat × Nat)) (bag above pr : List Nat) (st : List (Nat × Nat) × List Nat) : Prop where
  old : ∀ x, (¬ x ∈ pr ∨ x ∈ above) → lk st.1 x = lk m x
  used : st.2 = (wOf bag above pr).map (lkD st.1)
  nd : st.2.Nodup
  has : ∀ x ∈ wOf bag above pr, ∃ l, lk st.1 x = some l ∧ l ≤ K
theorem lkD_put_ne {m : List (Nat × Nat)} {k v x : Nat} (h : k ≠ x) : lkD (put m k v) x = lkD m x := by unfold lkD; rw [lk_put, if_neg h]
theorem asg_inv {K : Nat} {m : List (Nat × Nat)} {bag above : List Nat} (nb : bag.Nodup) (hK : bag.length ≤ K + 1) : ∀ (rest pr : List Nat) (st : List (Nat × Nat) × List Nat), bag = pr ++ rest → AInv K m bag above pr st → AInv K m bag above bag (rest.foldl (asg1 above) st)
  | [], pr, st, e, A => by
    rw [List.append_nil] at e
    rw [← e] at A
    exact A
  | v :: rest, pr, st, e, A => by
    have e' : bag = pr ++ [v] ++ rest := by rw [e]; simp
    refine asg_inv nb hK rest (pr ++ [v]) _ e' ?_
    unfold asg1
    by_cases h : v ∈ above
    · rw [if_pos h]
      have w : wOf bag above (pr ++ [v]) = wOf bag above pr := by simp [wOf, h]
      refine ⟨fun x hx => A.old x ?_, by rw [w]; exact A.used, A.nd, by rw [w]; exact A.has⟩
      rcases hx with hx | hx
      · exact .inl fun q => hx (List.mem_append_left _ q)
      · exact .inr hx
    · rw [if_neg h]
      have w : wOf bag above (pr ++ [v]) = wOf bag above pr ++ [v] := by simp [wOf, h]
      have nv : ¬ v ∈ pr := fun q => by
        rw [e, List.nodup_append] at nb
        exact nb.2.2 v q v List.mem_cons_self rfl
      have nw : ¬ v ∈ wOf bag above pr := fun q => by
        rcases List.mem_append.mp q with q | q
        · exact h (of_decide_eq_true (List.mem_filter.mp q).2)
        · exact nv (List.mem_filter.mp q).1
      have len : (wOf bag above pr).length ≤ K := by
        have ndw : (wOf bag above pr ++ [v]).Nodup := by
          rw [← w]
          unfold wOf
          rw [List.nodup_append]
          refine ⟨nb.sublist List.filter_sublist, ?_, fun a ha b hb q => ?_⟩
          · rw [e'] at nb
            exact (nb.sublist (List.sublist_append_left _ _)).sublist List.filter_sublist
          · subst q
            exact (of_decide_eq_true (List.mem_filter.mp hb).2) (of_decide_eq_true (List.mem_filter.mp ha).2)
        have := List.Nodup.length_le_of_subset ndw (l₂ := bag) fun x hx => by
          rw [← w] at hx
          rcases List.mem_append.mp hx with q | q
          · exact (List.mem_filter.mp q).1
          · rw [e']; exact List.mem_append_left _ (List.mem_filter.mp q).1
        simp at this
        omega
      have keep : (wOf bag above pr).map (lkD (put st.1 v (least st.2))) = (wOf bag above pr).map (lkD st.1) := List.map_congr_left fun x hx => lkD_put_ne fun q => nw (by rw [q]; exact hx)
      have lu : st.2.length ≤ K := by rw [A.used, List.length_map]; exact len
      refine ⟨fun x hx => ?_, ?_, ?_, fun x hx => ?_⟩
      · have ne : v ≠ x := fun q => by
          subst q
          rcases hx with hx | hx
          · exact hx (by simp)
          · exact h hx
        dsimp only
        rw [lk_put, if_neg ne]
        refine A.old x ?_
        rcases hx with hx | hx
        · exact .inl fun q => hx (List.mem_append_left _ q)
        · exact .inr hx
      · dsimp only
        rw [w, List.map_append, keep, ← A.used]
        simp [lkD, lk_put]
      · dsimp only
        rw [List.nodup_append]
        exact ⟨A.nd, by simp, fun a ha b hb q => least_not st.2 (by simp at hb; rw [← hb, ← q]; exact ha)⟩
      · dsimp only
        rw [w] at hx
        rcases List.mem_append.mp hx with q | q
        · rw [lk_put, if_neg fun z => nw (by rw [z]; exact q)]
          exact A.has x q
        · simp at q
          subst q
          rw [lk_put, if_pos rfl]
          exact ⟨_, rfl, Nat.le_trans (least_le _) lu⟩
/-- the labels of a bag are told apart -/
def LabOk (K : Nat) (m : List (Nat × Nat)) (b : List Nat) : Prop := (∀ x ∈ b, ∀ y ∈ b, lkD m x = lkD m y → x = y) ∧ ∀ x ∈ b, ∃ l, lk m x = some l ∧ l ≤ K
theorem asg_ok {K : Nat} {m : List (Nat × Nat)} {bag above : List Nat} (nb : bag.Nodup) (hK : bag.length ≤ K + 1) (h : LabOk K m (bag.filter fun v => decide (v ∈ above))) :
    (∀ x, (¬ x ∈ bag ∨ x ∈ above) → lk (asg m bag above) x = lk m x) ∧ LabOk K (asg m bag above) bag := by
  have w0 : wOf bag above [] = bag.filter fun v => decide (v ∈ above) := by simp [wOf]
  have A := asg_inv (m := m) (above := above) nb hK bag [] (m, used0 m bag above) rfl
    ⟨fun _ _ => rfl, by rw [w0]; rfl, nodup_map_inj (nb.sublist List.filter_sublist) h.1, by rw [w0]; exact h.2⟩
  have mw : ∀ x ∈ bag, x ∈ wOf bag above bag := fun x hx => by
    unfold wOf
    by_cases q : x ∈ above
    · exact List.mem_append_left _ (List.mem_filter.mpr ⟨hx, decide_eq_true q⟩)
    · exact List.mem_append_right _ (List.mem_filter.mpr ⟨hx, decide_eq_true q⟩)
  refine ⟨A.old, fun x hx y hy e => ?_, fun x hx => A.has x (mw x hx)⟩
  have nd := A.nd
  rw [A.used] at nd
  exact inj_of_nodup_map nd x (mw x hx) y (mw y hy) e
/-! ### all bags -/
def labL (m : List (Nat × Nat)) (l : List (List Nat × List Nat)) : List (Nat × Nat) := l.foldl (fun m q => asg m q.1 q.2) m
theorem labL_app (m : List (Nat × Nat)) (a b : List (List Nat × List Nat)) : labL m (a ++ b) = labL (labL m a) b := List.foldl_append
theorem LabOk.congr {K : Nat} {m m' : List (Nat × Nat)} {b : List Nat} (h : LabOk K m b) (e : ∀ x ∈ b, lk m' x = lk m x) : LabOk K m' b := by
  have e' : ∀ x ∈ b, lkD m' x = lkD m x := fun x hx => by unfold lkD; rw [e x hx]
  exact ⟨fun x hx y hy q => h.1 x hx y hy (by rw [← e' x hx, ← e' y hy]; exact q), fun x hx => by rw [e x hx]; exact h.2 x hx⟩
theorem LabOk.sub {K : Nat} {m : List (Nat × Nat)} {b c : List Nat} (h : LabOk K m b) (s : ∀ x ∈ c, x ∈ b) : LabOk K m c := ⟨fun x hx y hy => h.1 x (s x hx) y (s y hy), fun x hx => h.2 x (s x hx)⟩
theorem labL_ok {K : Nat} : ∀ {B : BT}, B.WF → (∀ b ∈ B.pre, b.Pairwise (· < ·) ∧ b.length ≤ K + 1) → ∀ (a : List Nat) (m : List (Nat × Nat)), (∀ x ∈ a, x ∈ B.vs → x ∈ B.bag) → LabOk K m (B.bag.filter fun v => decide (v ∈ a)) →
    (∀ x, (¬ x ∈ B.vs ∨ x ∈ a) → lk (labL m (B.prA a)) x = lk m x) ∧ ∀ b ∈ B.pre, LabOk K (labL m (B.prA a)) b
  | .leaf b, _, hb, a, m, ha, hm => by
    obtain ⟨h1, h2⟩ := hb b List.mem_cons_self
    obtain ⟨c1, c2⟩ := asg_ok (nodup_of_lt h1) h2 hm
    have e : labL m ((BT.leaf b).prA a) = asg m b a := rfl
    rw [e]
    refine ⟨fun x hx => c1 x (hx.imp (fun q z => q (BT.bag_vs z)) id), fun b' hb' => ?_⟩
    simp [BT.pre] at hb'
    rw [hb']
    exact c2
  | .one b c, W, hb, a, m, ha, hm => by
    obtain ⟨h1, h2⟩ := hb b List.mem_cons_self
    obtain ⟨c1, c2⟩ := asg_ok (nodup_of_lt h1) h2 hm
    obtain ⟨i1, i2⟩ := labL_ok W.1 (fun b hb' => hb b (List.mem_cons_of_mem _ hb')) b (asg m b a) W.2 (c2.sub fun x hx => of_decide_eq_true (List.mem_filter.mp hx).2)
    have e : labL m ((BT.one b c).prA a) = labL (asg m b a) (c.prA b) := rfl
    rw [e]
    refine ⟨fun x hx => ?_, fun b' hb' => ?_⟩
    · have n : ¬ x ∈ (BT.one b c).vs → lk (labL (asg m b a) (c.prA b)) x = lk m x := fun q => by
        rw [i1 x (.inl fun z => q (vs_one.mpr (.inr z))), c1 x (.inl fun z => q (vs_one.mpr (.inl z)))]
      rcases hx with q | q
      · exact n q
      · by_cases z : x ∈ b
        · rw [i1 x (.inr z), c1 x (.inr q)]
        · exact n fun y => z (ha x q y)
    · rcases List.mem_cons.mp hb' with rfl | q
      · exact c2.congr fun x hx => i1 x (.inr hx)
      · exact i2 b' q
  | .two b c d, W, hb, a, m, ha, hm => by
    obtain ⟨h1, h2⟩ := hb b List.mem_cons_self
    obtain ⟨c1, c2⟩ := asg_ok (nodup_of_lt h1) h2 hm
    obtain ⟨i1, i2⟩ := labL_ok W.1 (fun b hb' => hb b (List.mem_cons_of_mem _ (List.mem_append_left _ hb'))) b (asg m b a) W.2.2.1 (c2.sub fun x hx => of_decide_eq_true (List.mem_filter.mp hx).2)
    have c3 : LabOk K (labL (asg m b a) (c.prA b)) b := c2.congr fun x hx => i1 x (.inr hx)
    obtain ⟨j1, j2⟩ := labL_ok W.2.1 (fun b hb' => hb b (List.mem_cons_of_mem _ (List.mem_append_right _ hb'))) b (labL (asg m b a) (c.prA b)) W.2.2.2.1 (c3.sub fun x hx => of_decide_eq_true (List.mem_filter.mp hx).2)
    have e : labL m ((BT.two b c d).prA a) = labL (labL (asg m b a) (c.prA b)) (d.prA b) := labL_app (asg m b a) (c.prA b) (d.prA b)
    rw [e]
    refine ⟨fun x hx => ?_, fun b' hb' => ?_⟩
    · have n : ¬ x ∈ (BT.two b c d).vs → lk (labL (labL (asg m b a) (c.prA b)) (d.prA b)) x = lk m x := fun q => by
        rw [j1 x (.inl fun z => q (vs_two.mpr (.inr (.inr z)))), i1 x (.inl fun z => q (vs_two.mpr (.inr (.inl z)))), c1 x (.inl fun z => q (vs_two.mpr (.inl z)))]
      rcases hx with q | q
      · exact n q
      · by_cases z : x ∈ b
        · rw [j1 x (.inr z), i1 x (.inr z), c1 x (.inr q)]
        · exact n fun y => z (ha x q y)
    · rcases List.mem_cons.mp hb' with rfl | q
      · exact c3.congr fun x hx => j1 x (.inr hx)
      · rcases List.mem_append.mp q with q | q
        · refine (i2 b' q).congr fun x hx => j1 x ?_
          by_cases z : x ∈ d.vs
          · exact .inr (W.2.2.2.2 x (List.mem_flatten.mpr ⟨b', q, hx⟩) z)
          · exact .inl z
        · exact j2 b' q
theorem labs_eq (B : BT) : labs B.pre B.pars = labL [] (B.prA []) := by
  rw [← pairs_all]
  unfold labs labsTo labL
  rw [List.foldl_map]
/-- the labels of a tree of bags -/
theorem labs_ok {K : Nat} {B : BT} (W : B.WF) (h : ∀ b ∈ B.pre, b.Pairwise (· < ·) ∧ b.length ≤ K + 1) : ∀ b ∈ B.pre, LabOk K (labs B.pre B.pars) b := by
  rw [labs_eq]
  exact (labL_ok W h [] [] (by simp) ⟨by simp, by simp⟩).2
end SWM


/-! The term of a tree of bags, and its meaning. -/
namespace SWM
def forgets (t : Tr) (ls : List Nat) : Tr := ls.foldl (fun t l => .forget l t) t
def newsT (t : Tr) (ls : List Nat) : Tr := ls.foldl (fun t l => .new l t) t
def edgesTr (t : Tr) (es : List (Nat × Nat)) : Tr := es.foldl (fun t e => .edge e.1 e.2 t) t
theorem post_forgets (ls : List Nat) : ∀ t, post (forgets t ls) = post t ++ ls.map Stp.forget := by
  induction ls with
  | nil => intro t; simp [forgets]
  | cons a r ih => intro t; show post (forgets (.forget a t) r) = _; rw [ih]; simp [post]
theorem post_news (ls : List Nat) : ∀ t, post (newsT t ls) = post t ++ ls.map Stp.new := by
  induction ls with
  | nil => intro t; simp [newsT]
  | cons a r ih => intro t; show post (newsT (.new a t) r) = _; rw [ih]; simp [post]
theorem post_edges (es : List (Nat × Nat)) : ∀ t, post (edgesTr t es) = post t ++ edgSteps es := by
  induction es with
  | nil => intro t; simp [edgesTr, edgSteps]
  | cons a r ih => intro t; show post (edgesTr (.edge a.1 a.2 t) r) = _; rw [ih]; simp [post, edgSteps]
/-- the labels in use are those of the vertices D -/
def LabS (L : Nat → Nat) (S : List (Nat × Nat)) (D : Nat → Prop) : Prop := ∀ p, p ∈ S ↔ p.1 = L p.2 ∧ D p.2
theorem LabS.congr {L : Nat → Nat} {S : List (Nat × Nat)} {D D' : Nat → Prop} (h : LabS L S D) (e : ∀ x, D x ↔ D' x) : LabS L S D' := fun p => by rw [h p, e]
theorem LabS.snd {L : Nat → Nat} {S : List (Nat × Nat)} {D : Nat → Prop} (h : LabS L S D) (x : Nat) : x ∈ S.map (·.2) ↔ D x := by
  constructor
  · intro q
    obtain ⟨p, hp, rfl⟩ := List.mem_map.mp q
    exact ((h p).mp hp).2
  · intro q
    exact List.mem_map.mpr ⟨(L x, x), (h _).mpr ⟨rfl, q⟩, rfl⟩
theorem I_forgets {L : Nat → Nat} : ∀ (xs : List Nat) {t S V E B} {D : Nat → Prop}, I t S V E B → LabS L S D → (∀ x y, D x → D y → L x = L y → x = y) → xs.Nodup → (∀ x ∈ xs, D x) →
    ∃ S' B', I (forgets t (xs.map L)) S' V E B' ∧ LabS L S' (fun x => D x ∧ ¬ x ∈ xs)
  | [], t, S, V, E, B, D, h, hS, _, _, _ => ⟨S, B, h, hS.congr fun x => by simp⟩
  | a :: r, t, S, V, E, B, D, h, hS, inj, nd, sub => by
    obtain ⟨n1, n2⟩ := List.nodup_cons.mp nd
    have ha := sub a List.mem_cons_self
    have J := I.forget h (i := L a) (List.mem_map.mpr ⟨(L a, a), (hS _).mpr ⟨rfl, ha⟩, rfl⟩)
    have hS' : LabS L (del S (L a)) (fun x => D x ∧ x ≠ a) := fun p => by
      rw [mem_del, hS p]
      constructor
      · rintro ⟨⟨e, d⟩, ne⟩
        exact ⟨e, d, fun z => ne (by rw [e, z])⟩
      · rintro ⟨e, d, ne⟩
        exact ⟨⟨e, d⟩, fun z => ne (inj _ _ d ha (by rw [← e, z]))⟩
    obtain ⟨S', B', k1, k2⟩ := I_forgets r J hS' (fun x y dx dy => inj x y dx.1 dy.1) n2 fun x hx => ⟨sub x (List.mem_cons_of_mem _ hx), fun z => n1 (by rw [← z]; exact hx)⟩
    refine ⟨S', B', k1, k2.congr fun x => ?_⟩
    simp only [List.mem_cons, not_or]
    exact ⟨fun ⟨⟨a, b⟩, c⟩ => ⟨a, b, c⟩, fun ⟨a, b, c⟩ => ⟨⟨a, b⟩, c⟩⟩
theorem I_news {L : Nat → Nat} : ∀ (xs : List Nat) {t S V E B} {D : Nat → Prop}, I t S V E B → LabS L S D → (∀ x y, (D x ∨ x ∈ xs) → (D y ∨ y ∈ xs) → L x = L y → x = y) → xs.Nodup → (∀ x ∈ xs, ¬ x ∈ V) →
    ∃ S' B', I (newsT t (xs.map L)) S' (V ++ xs) E B' ∧ LabS L S' (fun x => D x ∨ x ∈ xs)
  | [], t, S, V, E, B, D, h, hS, _, _, _ => ⟨S, B, by simpa [newsT] using h, hS.congr fun x => by simp⟩
  | a :: r, t, S, V, E, B, D, h, hS, inj, nd, sub => by
    obtain ⟨n1, n2⟩ := List.nodup_cons.mp nd
    have O := h.ok
    have nk : ¬ L a ∈ S.map (·.1) := fun q => by
      obtain ⟨p, hp, e⟩ := List.mem_map.mp q
      obtain ⟨e1, d⟩ := (hS p).mp hp
      have := inj p.2 a (.inl d) (.inr List.mem_cons_self) (by rw [← e1, e])
      exact sub a List.mem_cons_self (by rw [← this]; exact O.sv p hp)
    have J := I.new h (i := L a) (x := a) nk (sub a List.mem_cons_self)
    have hS' : LabS L (S ++ [(L a, a)]) (fun x => D x ∨ x = a) := fun p => by
      rw [List.mem_append, hS p, List.mem_singleton]
      constructor
      · rintro (⟨e, d⟩ | e)
        · exact ⟨e, .inl d⟩
        · subst e; exact ⟨rfl, .inr rfl⟩
      · rintro ⟨e, d | d⟩
        · exact .inl ⟨e, d⟩
        · exact .inr (Prod.ext (by rw [e, d]) d)
    have up : ∀ x, ((D x ∨ x = a) ∨ x ∈ r) → (D x ∨ x ∈ a :: r) := fun x q => by
      rcases q with (q | q) | q
      · exact .inl q
      · exact .inr (by rw [q]; exact List.mem_cons_self)
      · exact .inr (List.mem_cons_of_mem _ q)
    obtain ⟨S', B', k1, k2⟩ := I_news r J hS' (fun x y dx dy => inj x y (up x dx) (up y dy)) n2 fun x hx q => by
      rcases List.mem_append.mp q with q | q
      · exact sub x (List.mem_cons_of_mem _ hx) q
      · simp at q; subst q; exact n1 hx
    refine ⟨S', B', by simpa [newsT] using k1, k2.congr fun x => ?_⟩
    simp only [List.mem_cons]
    exact ⟨fun q => q.elim (fun q => q.elim .inl fun q => .inr (.inl q)) fun q => .inr (.inr q), fun q => q.elim (fun q => .inl (.inl q)) fun q => q.elim (fun q => .inl (.inr q)) .inr⟩
theorem I_edges {L : Nat → Nat} {D : Nat → Prop} (inj : ∀ x y, D x → D y → L x = L y → x = y) : ∀ (rv : List (Nat × Nat)) {t S V E B}, I t S V E B → LabS L S D → (∀ e ∈ rv, e.1 ≠ e.2 ∧ D e.1 ∧ D e.2) → (E.map sp ++ rv.map sp).Nodup →
    ∃ E' B', I (edgesTr t (rv.map fun e => sp (L e.1, L e.2))) S V E' B' ∧ E'.map sp = E.map sp ++ rv.map sp
  | [], t, S, V, E, B, h, hS, _, _ => ⟨E, B, h, by simp⟩
  | a :: r, t, S, V, E, B, h, hS, ok, nd => by
    obtain ⟨ne, d1, d2⟩ := ok a List.mem_cons_self
    have neL : L a.1 ≠ L a.2 := fun z => ne (inj _ _ d1 d2 z)
    have nE : ∀ e ∈ E, sp e ≠ sp a := fun e he z => by
      rw [List.nodup_append] at nd
      exact nd.2.2 _ (List.mem_map.mpr ⟨e, he, rfl⟩) (sp a) (by simp) z
    have m1 : (L a.1, a.1) ∈ S := (hS _).mpr ⟨rfl, d1⟩
    have m2 : (L a.2, a.2) ∈ S := (hS _).mpr ⟨rfl, d2⟩
    have key : ∃ u v B1, I (.edge (sp (L a.1, L a.2)).1 (sp (L a.1, L a.2)).2 t) S V (E ++ [(u, v)]) B1 ∧ sp (u, v) = sp a := by
      by_cases q : L a.1 < L a.2
      · have e : sp (L a.1, L a.2) = (L a.1, L a.2) := sp_of_le (Nat.le_of_lt q)
        rw [e]
        exact ⟨a.1, a.2, _, I.edge h q m1 m2 nE, rfl⟩
      · have e : sp (L a.1, L a.2) = (L a.2, L a.1) := by rw [sp_swap]; exact sp_of_le (by dsimp only; omega)
        rw [e]
        exact ⟨a.2, a.1, _, I.edge h (by omega) m2 m1 (fun e he z => nE e he (z.trans (sp_swap _ _))), sp_swap _ _⟩
    obtain ⟨u, v, B1, J, es⟩ := key
    obtain ⟨E', B', k1, k2⟩ := I_edges inj r J hS (fun e he => ok e (List.mem_cons_of_mem _ he)) (by simpa [es] using nd)
    exact ⟨E', B', k1, by rw [k2]; simp [es]⟩
/-! ### the steps for a bag -/
theorem byL_perm (L : Nat → Nat) (vs : List Nat) : (byL L vs).Perm vs := List.mergeSort_perm _ _
theorem mem_byL {L : Nat → Nat} {vs : List Nat} {x : Nat} : x ∈ byL L vs ↔ x ∈ vs := (byL_perm L vs).mem_iff
/-- what is known of the steps x for a part with the vertices D labelled, W in all, and the edges F -/
structure Part (L : Nat → Nat) (x : SO) (D W : Nat → Prop) (F : List (Nat × Nat)) : Prop where
  ex : ∃ t S E B, post t = x.1 ∧ I t S x.2 E B ∧ LabS L S D ∧ (∀ v, v ∈ x.2 ↔ W v) ∧ E.map sp = F
theorem part_from {L : Nat → Nat} {x : SO} {below bag : List Nat} {W : Nat → Prop} {F : List (Nat × Nat)} (h : Part L x (· ∈ below) W F) (nb : bag.Nodup) (nl : below.Nodup) (i1 : ∀ x ∈ below, ∀ y ∈ below, L x = L y → x = y) (i2 : ∀ x ∈ bag, ∀ y ∈ bag, L x = L y → x = y)
    (hw : ∀ x ∈ bag, W x → x ∈ below) : Part L (fromC L bag below x) (· ∈ bag) (fun v => W v ∨ v ∈ bag) F := by
  obtain ⟨t, S, E, B, h1, h2, h3, h4, h5⟩ := h.ex
  have mf : ∀ v, v ∈ byL L (below.filter fun v => decide (¬ v ∈ bag)) ↔ v ∈ below ∧ ¬ v ∈ bag := fun v => by rw [mem_byL, List.mem_filter]; simp
  have mn : ∀ v, v ∈ byL L (bag.filter fun v => decide (¬ v ∈ below)) ↔ v ∈ bag ∧ ¬ v ∈ below := fun v => by rw [mem_byL, List.mem_filter]; simp
  obtain ⟨S1, B1, k1, k2⟩ := I_forgets (L := L) (byL L (below.filter fun v => decide (¬ v ∈ bag))) h2 h3 (fun x y hx hy => i1 x hx y hy) ((byL_perm _ _).nodup_iff.mpr (nl.sublist List.filter_sublist)) fun v hv => ((mf v).mp hv).1
  have k2' : LabS L S1 (fun v => v ∈ below ∧ v ∈ bag) := k2.congr fun v => by
    rw [mf]
    exact ⟨fun ⟨a, b⟩ => ⟨a, Classical.byContradiction fun z => b ⟨a, z⟩⟩, fun ⟨a, b⟩ => ⟨a, fun z => z.2 b⟩⟩
  have inB : ∀ v, ((v ∈ below ∧ v ∈ bag) ∨ v ∈ byL L (bag.filter fun v => decide (¬ v ∈ below))) → v ∈ bag := fun v q => q.elim (fun q => q.2) fun q => ((mn v).mp q).1
  obtain ⟨S2, B2, k3, k4⟩ := I_news (L := L) (byL L (bag.filter fun v => decide (¬ v ∈ below))) k1 k2' (fun x y hx hy => i2 x (inB x hx) y (inB y hy)) ((byL_perm _ _).nodup_iff.mpr (nb.sublist List.filter_sublist)) fun v hv q =>
    ((mn v).mp hv).2 (hw v ((mn v).mp hv).1 ((h4 v).mp q))
  refine ⟨_, S2, E, B2, ?_, k3, k4.congr fun v => ?_, fun v => ?_, h5⟩
  · rw [post_news, post_forgets, h1]
    simp [fromC, Function.comp_def]
  · rw [mn]
    exact ⟨fun q => q.elim (fun q => q.2) fun q => q.1, fun q => (Classical.em (v ∈ below)).elim (fun z => .inl ⟨z, q⟩) fun z => .inr ⟨q, z⟩⟩
  · show v ∈ x.2 ++ byL L (bag.filter fun v => decide (¬ v ∈ below)) ↔ _
    rw [List.mem_append, h4, mn]
    exact ⟨fun q => q.elim .inl fun q => .inr q.1, fun q => q.elim .inl fun q => (Classical.em (W v)).elim .inl fun z => (Classical.em (v ∈ below)).elim (fun y => .inl ((h4 v).mp (by
      have O := h2.ok
      exact O.sv (L v, v) ((h3 _).mpr ⟨rfl, y⟩)))) fun y => .inr ⟨q, y⟩⟩
theorem part_leaf {L : Nat → Nat} {bag : List Nat} (nb : bag.Nodup) (i2 : ∀ x ∈ bag, ∀ y ∈ bag, L x = L y → x = y) : Part L (leafSO L bag) (· ∈ bag) (· ∈ bag) [] := by
  obtain ⟨S, B, k1, k2⟩ := I_news (L := L) (D := fun _ => False) (byL L bag) I.empty (fun p => by simp) (fun x y hx hy => i2 x (hx.elim False.elim mem_byL.mp) y (hy.elim False.elim mem_byL.mp)) ((byL_perm _ _).nodup_iff.mpr nb) (by simp)
  refine ⟨_, S, [], B, ?_, by simpa [leafSO] using k1, k2.congr fun v => ?_, fun v => mem_byL, rfl⟩
  · rw [post_news]
    simp [leafSO, post, Function.comp_def]
  · rw [mem_byL]
    simp
theorem part_join {L : Nat → Nat} {x y : SO} {bag : List Nat} {W W' : Nat → Prop} {F F' : List (Nat × Nat)} (h : Part L x (· ∈ bag) W F) (g : Part L y (· ∈ bag) W' F') (hw : ∀ v, W v → W' v → v ∈ bag) (hF : ∀ e ∈ F, ¬ e ∈ F') : Part L (addC bag x y) (· ∈ bag) (fun v => W v ∨ W' v) (F ++ F') := by
  obtain ⟨t, S, E, B, h1, h2, h3, h4, h5⟩ := h.ex
  obtain ⟨u, S', E', B', g1, g2, g3, g4, g5⟩ := g.ex
  have hS : ∀ p, p ∈ S ↔ p ∈ S' := fun p => by rw [h3 p, g3 p]
  have J := I.join h2 g2 hS (fun v hv hv' => (h3.snd v).mpr (hw v ((h4 v).mp hv) ((g4 v).mp hv'))) (fun e he e' he' z => hF (sp e) (by rw [← h5]; exact List.mem_map.mpr ⟨e, he, rfl⟩) (by rw [z, ← g5]; exact List.mem_map.mpr ⟨e', he', rfl⟩))
  have er : restO S' y.2 = y.2.filter fun v => decide (¬ v ∈ bag) := List.filter_congr fun v _ => decide_eq_decide.mpr (not_congr (g3.snd v))
  rw [er] at J
  refine ⟨_, S, _, _, ?_, J, h3, fun v => ?_, by rw [List.map_append, h5, g5]⟩
  · rw [post, h1, g1]
    rfl
  · show v ∈ x.2 ++ (y.2.filter fun v => decide (¬ v ∈ bag)) ↔ _
    rw [List.mem_append, h4, List.mem_filter, g4]
    simp only [decide_eq_true_eq]
    refine ⟨fun q => q.elim .inl fun q => .inr q.1, fun q => q.elim .inl fun q => (Classical.em (v ∈ bag)).elim (fun z => .inl ((h4 v).mp (h2.ok.sv (L v, v) ((h3 _).mpr ⟨rfl, z⟩)))) fun z => .inr ⟨q, z⟩⟩
theorem part_edges {L : Nat → Nat} {x : SO} {bag : List Nat} {W : Nat → Prop} {F : List (Nat × Nat)} {rv : List (Nat × Nat)} (h : Part L x (· ∈ bag) W F) (i2 : ∀ x ∈ bag, ∀ y ∈ bag, L x = L y → x = y) (ok : ∀ e ∈ rv, e.1 ≠ e.2 ∧ e.1 ∈ bag ∧ e.2 ∈ bag) (nd : (F ++ rv.map sp).Nodup) :
    Part L (x.1 ++ edgSteps (rv.map fun e => sp (L e.1, L e.2)), x.2) (· ∈ bag) W (F ++ rv.map sp) := by
  obtain ⟨t, S, E, B, h1, h2, h3, h4, h5⟩ := h.ex
  obtain ⟨E', B', k1, k2⟩ := I_edges (L := L) (D := (· ∈ bag)) (fun x y hx hy => i2 x hx y hy) rv h2 h3 ok (by rw [h5]; exact nd)
  exact ⟨_, S, E', B', by rw [post_edges, h1], k1, h3, h4, by rw [k2, h5]⟩
/-! ### all bags -/
def rowsT (rv : Nat → List (Nat × Nat)) : BT → Nat → List (Nat × Nat)
  | .leaf _, o => rv o
  | .one _ c, o => rowsT rv c (o + 1) ++ rv o
  | .two _ c d, o => (rowsT rv c (o + 1) ++ rowsT rv d (o + 1 + c.size)) ++ rv o
theorem tm_part {L : Nat → Nat} {rv : Nat → List (Nat × Nat)} : ∀ {B : BT} {o : Nat}, B.WF → (∀ b ∈ B.pre, b.Nodup ∧ ∀ x ∈ b, ∀ y ∈ b, L x = L y → x = y) → (∀ j b, B.pre[j]? = some b → ∀ e ∈ rv (o + j), e.1 ≠ e.2 ∧ e.1 ∈ b ∧ e.2 ∈ b) → ((rowsT rv B o).map sp).Nodup →
    Part L (tm L (fun i => (rv i).map fun e => sp (L e.1, L e.2)) B o) (· ∈ B.bag) (· ∈ B.vs) ((rowsT rv B o).map sp)
  | .leaf b, o, W, hb, he, nd => by
    obtain ⟨n, i⟩ := hb b List.mem_cons_self
    have k := part_edges (rv := rv o) (part_leaf (L := L) n i) i (he 0 b rfl) (by simpa [rowsT] using nd)
    obtain ⟨t, S, E, B, h1, h2, h3, h4, h5⟩ := k.ex
    exact ⟨t, S, E, B, h1, h2, h3, fun v => (h4 v).trans (by simp [BT.vs, BT.pre]), by simpa [rowsT] using h5⟩
  | .one b c, o, W, hb, he, nd => by
    obtain ⟨n, i⟩ := hb b List.mem_cons_self
    obtain ⟨nc, ic⟩ := hb c.bag (List.mem_cons_of_mem _ c.bag_pre)
    have nd' : ((rowsT rv c (o + 1)).map sp ++ (rv o).map sp).Nodup := by simpa [rowsT] using nd
    have ih := tm_part (o := o + 1) W.1 (fun b hb' => hb b (List.mem_cons_of_mem _ hb')) (fun j b' hj e h => he (j + 1) b' (by simpa [BT.pre] using hj) e (by rw [show o + (j + 1) = o + 1 + j by omega]; exact h)) (List.nodup_append.mp nd').1
    have k := part_edges (rv := rv o) (part_from ih n nc ic i fun x hx hv => W.2 x hx hv) i (he 0 b rfl) nd'
    obtain ⟨t, S, E, B, h1, h2, h3, h4, h5⟩ := k.ex
    exact ⟨t, S, E, B, h1, h2, h3, fun v => (h4 v).trans (by rw [vs_one]; exact Or.comm), by simpa [rowsT] using h5⟩
  | .two b c d, o, W, hb, he, nd => by
    obtain ⟨n, i⟩ := hb b List.mem_cons_self
    obtain ⟨nc, ic⟩ := hb c.bag (List.mem_cons_of_mem _ (List.mem_append_left _ c.bag_pre))
    obtain ⟨ndd, idd⟩ := hb d.bag (List.mem_cons_of_mem _ (List.mem_append_right _ d.bag_pre))
    have lc : c.pre.length = c.size := rfl
    have nd' : (((rowsT rv c (o + 1)).map sp ++ (rowsT rv d (o + 1 + c.size)).map sp) ++ (rv o).map sp).Nodup := by simpa [rowsT] using nd
    have nd2 := (List.nodup_append.mp nd').1
    have ih := tm_part (o := o + 1) W.1 (fun b hb' => hb b (List.mem_cons_of_mem _ (List.mem_append_left _ hb'))) (fun j b' hj e h => he (j + 1) b' (by
      simp only [BT.pre, List.getElem?_cons_succ]
      rw [List.getElem?_append_left (by have := (List.getElem?_eq_some_iff.mp hj).1; omega)]
      exact hj) e (by rw [show o + (j + 1) = o + 1 + j by omega]; exact h)) (List.nodup_append.mp nd2).1
    have ih' := tm_part (o := o + 1 + c.size) W.2.1 (fun b hb' => hb b (List.mem_cons_of_mem _ (List.mem_append_right _ hb'))) (fun j b' hj e h => he (c.size + j + 1) b' (by
      simp only [BT.pre, List.getElem?_cons_succ]
      rw [List.getElem?_append_right (by omega), lc, Nat.add_sub_cancel_left]
      exact hj) e (by rw [show o + (c.size + j + 1) = o + 1 + c.size + j by omega]; exact h)) (List.nodup_append.mp nd2).2.1
    have f1 := part_from ih n nc ic i fun x hx hv => W.2.2.1 x hx hv
    have f2 := part_from ih' n ndd idd i fun x hx hv => W.2.2.2.1 x hx hv
    have j := part_join f1 f2 (fun v a b => a.elim (fun a => b.elim (fun b => W.2.2.2.2 v a b) id) id) fun e a b => (List.nodup_append.mp nd2).2.2 e a e b rfl
    have k := part_edges (rv := rv o) j i (he 0 b rfl) nd'
    obtain ⟨t, S, E, B, h1, h2, h3, h4, h5⟩ := k.ex
    exact ⟨t, S, E, B, h1, h2, h3, fun v => (h4 v).trans (by
      rw [vs_two]
      exact ⟨fun q => q.elim (fun q => q.elim (fun q => .inr (.inl q)) .inl) fun q => q.elim (fun q => .inr (.inr q)) .inl, fun q => q.elim (fun q => .inl (.inr q)) fun q => q.elim (fun q => .inl (.inl q)) fun q => .inr (.inl q)⟩), by simpa [rowsT] using h5⟩
/-- the whole term: closed -/
theorem whole_part {L : Nat → Nat} {x : SO} {bag : List Nat} {W : Nat → Prop} {F : List (Nat × Nat)} (h : Part L x (· ∈ bag) W F) (nb : bag.Nodup) (i : ∀ x ∈ bag, ∀ y ∈ bag, L x = L y → x = y) :
    ∃ t E B, post t = (wholeSO L bag x).1 ∧ I t [] (wholeSO L bag x).2 E B ∧ (∀ v, v ∈ (wholeSO L bag x).2 ↔ W v) ∧ E.map sp = F := by
  obtain ⟨t, S, E, B, h1, h2, h3, h4, h5⟩ := h.ex
  obtain ⟨S', B', k1, k2⟩ := I_forgets (L := L) (byL L bag) h2 h3 (fun x y hx hy => i x hx y hy) ((byL_perm _ _).nodup_iff.mpr nb) fun v hv => mem_byL.mp hv
  have e : S' = [] := List.eq_nil_iff_forall_not_mem.mpr fun p hp => by
    obtain ⟨_, a, b⟩ := (k2 p).mp hp
    exact b (mem_byL.mpr a)
  subst e
  exact ⟨_, E, B', by rw [post_forgets, h1]; simp [wholeSO, Function.comp_def], k1, h4, h5⟩
end SWM


/-! Bounds, and the whole round trip. -/
namespace SWM
theorem byL_len (L : Nat → Nat) (vs : List Nat) : (byL L vs).length = vs.length := (byL_perm L vs).length_eq
theorem fromC_len (L : Nat → Nat) (bag below : List Nat) (x : SO) : (fromC L bag below x).1.length = x.1.length + (more below bag).length + (more bag below).length := by
  simp [fromC, byL_len, more]
  omega
theorem addC_len (bag : List Nat) (x y : SO) : (addC bag x y).1.length = x.1.length + y.1.length + 1 := by simp [addC]; omega
theorem tm_len {L : Nat → Nat} {row : Nat → List (Nat × Nat)} {rv : Nat → List (Nat × Nat)} (hr : ∀ i, (row i).length = (rv i).length) : ∀ {B : BT} {o : Nat}, B.Adj → (tm L row B o).1.length + 1 ≤ 4 * B.size + (rowsT rv B o).length
  | .leaf b, o, A => by
    have A : b = [] := A
    subst A
    simp [tm, doSO, childSO, leafSO, edgSteps, byL, BT.size, BT.pre, rowsT, hr]
    omega
  | .one b c, o, A => by
    have ih := tm_len (L := L) hr (o := o + 1) A.1
    have h1 := A.2.1
    have h2 := A.2.2
    have e : (tm L row (.one b c) o).1.length = (fromC L b c.bag (tm L row c (o + 1))).1.length + (row o).length := by simp [tm, doSO, childSO, edgSteps]
    rw [e, fromC_len, BT.size_one, rowsT, List.length_append, hr]
    omega
  | .two b c d, o, A => by
    have ih := tm_len (L := L) hr (o := o + 1) A.1
    have ih' := tm_len (L := L) hr (o := o + 1 + c.size) A.2.1
    obtain ⟨_, _, h1, h2, h3, h4⟩ := A
    have e : (tm L row (.two b c d) o).1.length = (addC b (fromC L b c.bag (tm L row c (o + 1))) (fromC L b d.bag (tm L row d (o + 1 + c.size)))).1.length + (row o).length := by simp [tm, doSO, childSO, edgSteps]
    rw [e, addC_len, fromC_len, fromC_len, BT.size_two, rowsT, List.length_append, List.length_append, hr]
    omega
/-! ### each edge in one row -/
theorem rowsT_perm (rv : Nat → List (Nat × Nat)) : ∀ (B : BT) (o : Nat), (rowsT rv B o).Perm ((List.range B.size).map fun j => rv (o + j)).flatten
  | .leaf b, o => by simp [rowsT, BT.size, BT.pre]
  | .one b c, o => by
    have ih := rowsT_perm rv c (o + 1)
    rw [rowsT, BT.size_one, List.range_succ_eq_map, List.map_cons, List.map_map, List.flatten_cons]
    refine List.perm_append_comm.trans ?_
    rw [Nat.add_zero]
    refine List.Perm.append_left _ (ih.trans (List.Perm.of_eq ?_))
    congr 1
    refine List.map_congr_left fun j _ => ?_
    simp only [Function.comp]
    rw [show o + j.succ = o + 1 + j by omega]
  | .two b c d, o => by
    have ih := rowsT_perm rv c (o + 1)
    have ih' := rowsT_perm rv d (o + 1 + c.size)
    rw [rowsT, BT.size_two, List.range_succ_eq_map, List.map_cons, List.map_map, List.flatten_cons, List.range_add, List.map_append, List.flatten_append, List.map_map]
    refine List.perm_append_comm.trans ?_
    rw [Nat.add_zero]
    refine List.Perm.append_left _ (List.Perm.append (ih.trans (List.Perm.of_eq ?_)) (ih'.trans (List.Perm.of_eq ?_)))
    · congr 1
      refine List.map_congr_left fun j _ => ?_
      simp only [Function.comp]
      rw [show o + j.succ = o + 1 + j by omega]
    · congr 1
      refine List.map_congr_left fun j _ => ?_
      simp only [Function.comp]
      rw [show o + (c.size + j).succ = o + 1 + c.size + j by omega]
theorem part_perm {α : Type} (f : α → Nat) : ∀ (n : Nat) (l : List α), (∀ e ∈ l, f e < n) → (((List.range n).map fun i => l.filter fun e => decide (f e = i)).flatten).Perm l
  | 0, l, h => by
    have e : l = [] := List.eq_nil_iff_forall_not_mem.mpr fun x hx => by have := h x hx; omega
    subst e
    simp
  | n + 1, l, h => by
    rw [List.range_succ, List.map_append, List.flatten_append]
    have ih := part_perm f n (l.filter fun e => !decide (f e = n)) fun e he => by
      obtain ⟨a, b⟩ := List.mem_filter.mp he
      have := h e a
      simp at b
      omega
    have e : ((List.range n).map fun i => l.filter fun e => decide (f e = i)) = (List.range n).map fun i => (l.filter fun e => !decide (f e = n)).filter fun e => decide (f e = i) := by
      refine List.map_congr_left fun i hi => ?_
      rw [List.filter_filter]
      refine List.filter_congr fun x _ => ?_
      have := List.mem_range.mp hi
      by_cases q : f x = i
      · have : ¬ f x = n := by omega
        simp [q]
        omega
      · simp [q]
    rw [e]
    simp only [List.map_cons, List.map_nil, List.flatten_cons, List.flatten_nil, List.append_nil]
    refine (List.Perm.append_right _ ih).trans ?_
    refine List.perm_append_comm.trans ?_
    exact List.filter_append_perm _ l
/-! ### the steps are steps for k -/
theorem okS_from {k : Nat} {L : Nat → Nat} {bag below : List Nat} {x : SO} (h : ∀ s ∈ x.1, okStp k s) (h1 : ∀ v ∈ bag, L v ≤ k) (h2 : ∀ v ∈ below, L v ≤ k) : ∀ s ∈ (fromC L bag below x).1, okStp k s := by
  intro s hs
  simp only [fromC, List.mem_append, List.mem_map] at hs
  rcases hs with (hs | ⟨v, hv, rfl⟩) | ⟨v, hv, rfl⟩
  · exact h s hs
  · exact h2 v (List.mem_filter.mp (mem_byL.mp hv)).1
  · exact h1 v (List.mem_filter.mp (mem_byL.mp hv)).1
theorem okS_tm {k : Nat} {L : Nat → Nat} {row : Nat → List (Nat × Nat)} (hrow : ∀ i, ∀ p ∈ row i, p.1 ≤ k ∧ p.2 ≤ k) : ∀ {B : BT} {o : Nat}, (∀ b ∈ B.pre, ∀ v ∈ b, L v ≤ k) → ∀ s ∈ (tm L row B o).1, okStp k s
  | .leaf b, o, hb, s, hs => by
    simp only [tm, doSO, childSO, leafSO, List.mem_append, List.mem_cons, List.mem_map, edgSteps] at hs
    rcases hs with (rfl | ⟨v, hv, rfl⟩) | ⟨p, hp, rfl⟩
    · trivial
    · exact hb b List.mem_cons_self v (mem_byL.mp hv)
    · exact hrow o p hp
  | .one b c, o, hb, s, hs => by
    have ih := okS_tm hrow (o := o + 1) fun b' hb' => hb b' (List.mem_cons_of_mem _ hb')
    simp only [tm, doSO, childSO, List.foldl_nil, List.mem_append, List.mem_map, edgSteps] at hs
    rcases hs with hs | ⟨p, hp, rfl⟩
    · exact okS_from ih (hb b List.mem_cons_self) (hb c.bag (List.mem_cons_of_mem _ c.bag_pre)) s hs
    · exact hrow o p hp
  | .two b c d, o, hb, s, hs => by
    have ih := okS_tm hrow (o := o + 1) fun b' hb' => hb b' (List.mem_cons_of_mem _ (List.mem_append_left _ hb'))
    have ih' := okS_tm hrow (o := o + 1 + c.size) fun b' hb' => hb b' (List.mem_cons_of_mem _ (List.mem_append_right _ hb'))
    simp only [tm, doSO, childSO, List.foldl_cons, List.foldl_nil, addC, List.mem_append, List.mem_singleton, List.mem_map, edgSteps] at hs
    rcases hs with (hs | hs | rfl) | ⟨p, hp, rfl⟩
    · exact okS_from ih (hb b List.mem_cons_self) (hb c.bag (List.mem_cons_of_mem _ (List.mem_append_left _ c.bag_pre))) s hs
    · exact okS_from ih' (hb b List.mem_cons_self) (hb d.bag (List.mem_cons_of_mem _ (List.mem_append_right _ d.bag_pre))) s hs
    · trivial
    · exact hrow o p hp
/-! ### the graph of a term -/
structure GraphOk (n : Nat) (es : List (Nat × Nat)) : Prop where
  lt : ∀ e ∈ es, e.1 < e.2 ∧ e.2 < n
  nd : es.Nodup
theorem graph_ok {T : List Stp} {k : Nat} {f : Frm} (h : IsTerm T k f) : GraphOk (sizeT T) (edgesT T) := by
  obtain ⟨t, rfl, hf⟩ := h.tree
  obtain ⟨S, E, B, hI, hE, _, _⟩ := own_meaning hf
  have O := hI.ok
  refine ⟨fun e he => ?_, by rw [← hE]; exact O.en⟩
  rw [← hE] at he
  obtain ⟨e0, h0, rfl⟩ := List.mem_map.mp he
  obtain ⟨a, b, c⟩ := O.ev e0 h0
  refine ⟨sp_lt a, ?_⟩
  rcases sp_cases e0 with z | z <;> rw [z]
  · exact List.mem_range.mp c
  · exact List.mem_range.mp b
theorem bldOk_of {T : List Stp} {k : Nat} {f : Frm} (h : IsTerm T k f) : BldOk T := by
  obtain ⟨t, rfl, hf⟩ := h.tree
  exact bldOk hf
theorem fst2_spec {B : List (List Nat)} {e : Nat × Nat} (h : ∃ b ∈ B, e.1 ∈ b ∧ e.2 ∈ b) : fst2 B e < B.length ∧ e.1 ∈ bagAt B (fst2 B e) ∧ e.2 ∈ bagAt B (fst2 B e) := by
  have lt : fst2 B e < B.length := List.findIdx_lt_length.mpr (by
    obtain ⟨b, hb, q⟩ := h
    exact ⟨b, hb, decide_eq_true q⟩)
  have g := List.findIdx_getElem (p := fun b => decide (e.1 ∈ b ∧ e.2 ∈ b)) (xs := B) (w := lt)
  have e2 : bagAt B (fst2 B e) = B[fst2 B e] := by
    unfold bagAt
    rw [List.getD_eq_getElem?_getD, List.getElem?_eq_getElem lt]
    rfl
  rw [e2]
  exact ⟨lt, of_decide_eq_true g⟩
/-! ### the round trip -/
abbrev labT (T : List Stp) : Nat → Nat := lkD (labs (bagsT T) (parsT T))
abbrev rowTe (T : List Stp) (i : Nat) : List (Nat × Nat) := rowE (labT T) (bagsT T) (graphT T) i
structure Round (T : List Stp) (k : Nat) (R : Nat → SO) : Prop where
  dec : Dec (sizeT T) (graphT T) (bagsT T) (parsT T)
  len : (bagsT T).length = T.length
  wid : ∀ b ∈ bagsT T, b.length ≤ k + 1
  lab : ∀ b ∈ bagsT T, LabOk k (labs (bagsT T) (parsT T)) b
  eq : ∀ i, i < (bagsT T).length → R i = doSO (labT T) (bagAt (bagsT T) i) (rowTe T i) ((kids (parsT T) (bagsT T).length i).map fun c => (bagAt (bagsT T) c, R c))
  few : (R 0).1.length ≤ 4 * T.length + (graphT T).length
  term : IsTerm (wholeSO (labT T) (bagAt (bagsT T) 0) (R 0)).1 k ([], [])
  most : (wholeSO (labT T) (bagAt (bagsT T) 0) (R 0)).1.length ≤ 4 * T.length + (graphT T).length + k + 1
  size : sizeT (wholeSO (labT T) (bagAt (bagsT T) 0) (R 0)).1 = sizeT T
  ord : srtN (wholeSO (labT T) (bagAt (bagsT T) 0) (R 0)).2 = List.range (sizeT T)
  turn : srtP ((graphT (wholeSO (labT T) (bagAt (bagsT T) 0) (R 0)).1).map fun e => sp ((wholeSO (labT T) (bagAt (bagsT T) 0) (R 0)).2.getD e.1 0, (wholeSO (labT T) (bagAt (bagsT T) 0) (R 0)).2.getD e.2 0)) = graphT T
  many : (graphT (wholeSO (labT T) (bagAt (bagsT T) 0) (R 0)).1).length = (graphT T).length
theorem getD_idxOf {l : List Nat} {x : Nat} (h : x ∈ l) : l.getD (l.idxOf x) 0 = x := by
  have lt := List.idxOf_lt_length_iff.mpr h
  rw [List.getD_eq_getElem?_getD, List.getElem?_eq_getElem lt]
  exact List.getElem_idxOf lt
theorem round {T : List Stp} {k : Nat} {f : Frm} (h : IsTerm T k f) : ∃ R, Round T k R := by
  have G := graph_ok h
  obtain ⟨t, rfl, hf⟩ := h.tree
  obtain ⟨S, E, B, hI, hE, hB, _⟩ := own_meaning hf
  have K := hI.bags
  have hP : parsT (post t) = B.pars := parsT_eq hI.shape
  have sz : B.size = (post t).length := hI.shape.size
  have hL := (hI.lens h.ok).1
  have hes : ∀ e ∈ graphT (post t), ∃ e0 ∈ E, e = sp e0 := fun e he => by
    have := mem_srtP.mp he
    rw [← hE] at this
    obtain ⟨e0, h0, rfl⟩ := List.mem_map.mp this
    exact ⟨e0, h0, rfl⟩
  have D : Dec (sizeT (post t)) (graphT (post t)) (bagsT (post t)) (parsT (post t)) := by rw [← hB, hP]; exact dec_of K rfl _ hes
  have lab : ∀ b ∈ bagsT (post t), LabOk k (labs (bagsT (post t)) (parsT (post t))) b := by rw [← hB, hP]; exact labs_ok K.wf fun b hb => ⟨K.asc b hb, hL b hb⟩
  have Gm : ∀ e ∈ graphT (post t), e.1 < e.2 ∧ e.2 < sizeT (post t) := fun e he => G.lt e (mem_srtP.mp he)
  have Gn : (graphT (post t)).Nodup := (srtP_perm _).nodup_iff.mpr G.nd
  have Gs : ∀ e ∈ graphT (post t), sp e = e := fun e he => sp_of_le (Nat.le_of_lt (Gm e he).1)
  generalize hes' : graphT (post t) = es at *
  generalize hn : sizeT (post t) = n at *
  rw [← hB, hP] at D lab
  have fs : ∀ e ∈ es, fst2 B.pre e < B.pre.length ∧ e.1 ∈ bagAt B.pre (fst2 B.pre e) ∧ e.2 ∈ bagAt B.pre (fst2 B.pre e) := fun e he => fst2_spec (D.edg e he)
  generalize hLab : lkD (labs B.pre B.pars) = L at *
  -- the rows, by vertices
  let rv : Nat → List (Nat × Nat) := fun i => es.filter fun e => decide (fst2 B.pre e = i)
  have inj : ∀ b ∈ B.pre, ∀ x ∈ b, ∀ y ∈ b, L x = L y → x = y := fun b hb => by rw [← hLab]; exact (lab b hb).1
  have Lk : ∀ b ∈ B.pre, ∀ v ∈ b, L v ≤ k := fun b hb v hv => by
    obtain ⟨l, h1, h2⟩ := (lab b hb).2 v hv
    rw [← hLab, lkD_of h1]
    exact h2
  have hrv : ∀ j b, B.pre[j]? = some b → ∀ e ∈ rv (0 + j), e.1 ≠ e.2 ∧ e.1 ∈ b ∧ e.2 ∈ b := fun j b hj e he => by
    rw [Nat.zero_add] at he
    obtain ⟨h1, h2⟩ := List.mem_filter.mp he
    have h2 := of_decide_eq_true h2
    obtain ⟨_, a, c⟩ := fs e h1
    have eb : bagAt B.pre j = b := by unfold bagAt; rw [List.getD_eq_getElem?_getD, hj]; rfl
    rw [h2, eb] at a c
    exact ⟨Nat.ne_of_lt (Gm e h1).1, a, c⟩
  have pm : (rowsT rv B 0).Perm es := by
    refine (rowsT_perm rv B 0).trans ?_
    have e : (fun j => rv (0 + j)) = rv := by funext j; rw [Nat.zero_add]
    rw [e]
    exact part_perm (fst2 B.pre) B.pre.length es fun e he => (fs e he).1
  have spid : (rowsT rv B 0).map sp = rowsT rv B 0 := by
    have e : (rowsT rv B 0).map sp = (rowsT rv B 0).map id := List.map_congr_left fun e he => Gs e (pm.mem_iff.mp he)
    rw [e, List.map_id]
  have part := tm_part (L := L) (rv := rv) (o := 0) K.wf (fun b hb => ⟨nodup_of_lt (K.asc b hb), inj b hb⟩) hrv (by rw [spid]; exact pm.nodup_iff.mpr Gn)
  obtain ⟨t', E', B', w1, w2, w3, w4⟩ := whole_part part (nodup_of_lt (K.asc _ B.bag_pre)) (inj _ B.bag_pre)
  have hrow : (fun i => (rv i).map fun e => sp (L e.1, L e.2)) = rowE L B.pre es := rfl
  rw [hrow] at part w1 w2 w3
  obtain ⟨r0, hr0⟩ := pre_cons B
  have b0 : bagAt B.pre 0 = B.bag := by rw [hr0]; rfl
  have rlen : (rowsT rv B 0).length = es.length := pm.length_eq
  have few : (tm L (rowE L B.pre es) B 0).1.length + 1 ≤ 4 * B.size + (rowsT rv B 0).length := tm_len (rv := rv) (fun i => by simp [rowE, rv]) K.adj
  obtain ⟨ps, f1, f2⟩ := w2.frame
  have pse : ps = [] := List.eq_nil_iff_forall_not_mem.mpr fun q hq => by
    obtain ⟨_, u, v, a, _⟩ := (f2 q).mp hq
    simp at a
  subst pse
  have O := w2.ok
  have mem : ∀ v, v ∈ (wholeSO L B.bag (tm L (rowE L B.pre es) B 0)).2 ↔ v ∈ List.range n := fun v => (w3 v).trans (K.vs v)
  obtain ⟨m1, m2⟩ := made_of w2
  rw [w1] at m1 m2
  have okS : ∀ s ∈ (wholeSO L B.bag (tm L (rowE L B.pre es) B 0)).1, okStp k s := fun s hs => by
    simp only [wholeSO, List.mem_append, List.mem_map] at hs
    rcases hs with hs | ⟨v, hv, rfl⟩
    · refine okS_tm (row := rowE L B.pre es) (fun i p hp => ?_) (fun b hb => Lk b hb) s hs
      obtain ⟨e, he, rfl⟩ := List.mem_map.mp hp
      obtain ⟨h1, _⟩ := List.mem_filter.mp he
      obtain ⟨lt, a, c⟩ := fs e h1
      have hb : bagAt B.pre (fst2 B.pre e) ∈ B.pre := by
        unfold bagAt
        rw [List.getD_eq_getElem?_getD, List.getElem?_eq_getElem lt]
        exact List.getElem_mem lt
      have q1 := Lk _ hb _ a
      have q2 := Lk _ hb _ c
      rcases sp_cases (L e.1, L e.2) with z | z <;> rw [z]
      · exact ⟨q1, q2⟩
      · exact ⟨q2, q1⟩
    · exact Lk _ B.bag_pre v (mem_byL.mp hv)
  have ordp : (wholeSO L B.bag (tm L (rowE L B.pre es) B 0)).2.Perm (List.range n) := (List.perm_ext_iff_of_nodup O.on List.nodup_range).mpr mem
  have blen : B.bag.length ≤ k + 1 := hL _ B.bag_pre
  have lenL : labT (post t) = L := by unfold labT; rw [← hB, hP, hLab]
  have eqE : E'.map sp = rowsT rv B 0 := w4.trans spid
  refine ⟨resR L (rowE L B.pre es) B, ?_, ?_, ?_, ?_, ?_, ?_, ?_, ?_, ?_, ?_, ?_, ?_⟩
  · rw [hn, hes', ← hB, hP]; exact D
  · rw [← hB]; exact sz
  · rw [← hB]; exact hL
  · rw [← hB, hP]; exact lab
  · intro i hi
    rw [← hB] at hi
    unfold rowTe
    rw [lenL, hes', ← hB, hP]
    exact resR_eq L (rowE L B.pre es) B hi
  · rw [resR_zero, hes']
    omega
  · rw [lenL, ← hB, b0, resR_zero]
    refine ⟨okS, ?_⟩
    rw [← w1]
    have := runF_post f1 []
    simpa [srtN] using this
  · rw [lenL, ← hB, b0, resR_zero, hes']
    simp only [wholeSO, List.length_append, List.length_map, byL_len]
    omega
  · rw [lenL, ← hB, b0, resR_zero, hn, m1, ordp.length_eq]
    simp
  · rw [lenL, ← hB, b0, resR_zero, hn]
    exact (srtN_uniq (ordp.symm) ((range_lt n).imp Nat.le_of_lt)).symm
  · rw [lenL, ← hB, b0, resR_zero, hes']
    have p1 : ((graphT (wholeSO L B.bag (tm L (rowE L B.pre es) B 0)).1).map fun e => sp ((wholeSO L B.bag (tm L (rowE L B.pre es) B 0)).2.getD e.1 0, (wholeSO L B.bag (tm L (rowE L B.pre es) B 0)).2.getD e.2 0)).Perm es := by
      refine ((srtP_perm _).map _).trans ?_
      rw [m2, List.map_map]
      refine List.Perm.trans (List.Perm.of_eq ?_) pm
      rw [← eqE]
      refine List.map_congr_left fun e he => ?_
      obtain ⟨_, a, c⟩ := O.ev e he
      simp only [Function.comp]
      rw [sp_map (fun x => (wholeSO L B.bag (tm L (rowE L B.pre es) B 0)).2.getD x 0)]
      dsimp only
      rw [getD_idxOf a, getD_idxOf c]
    rw [srtP_congr p1, ← hes']
    exact srtP_idem _
  · rw [lenL, ← hB, b0, resR_zero, hes']
    unfold graphT
    rw [(srtP_perm _).length_eq, m2, List.length_map]
    have := congrArg List.length eqE
    rw [List.length_map] at this
    omega
end SWM


/-! The law's own terms. -/
namespace SWM
abbrev LS := List Stp × List Frm
def putS (st : LS) (s : Stp) : LS := match stepF s st.2 with
  | some fs => (st.1 ++ [s], fs)
  | none => st
def topF (st : LS) : Frm := st.2.getLastD ([], [])
def lowF (st : LS) : Frm := st.2.dropLast.getLastD ([], [])
def pj1 (st : LS) (q : Nat × Nat) : LS := if q ∈ (topF st).2 then putS st (.forget q.1) else st
def pj2 (low : Frm) (st : LS) (l : Nat) : LS :=
  let st1 := if l ∈ (topF st).1 ∧ ¬ l ∈ low.1 then putS st (.forget l) else st
  if l ∈ low.1 then putS st1 (.new l) else st1
def putJ (k : Nat) (st : LS) : LS := putS ((List.range (k + 1)).foldl (pj2 (lowF st)) ((lowF st).2.foldl pj1 st)) .join
def putD (k : Nat) (st : LS) (d : Nat) : LS :=
  if d % 8 = 0 ∧ st.2.length < 3 then putS st .empty
  else if d % 8 < 4 then putS st (.new (d / 8 % (k + 1)))
  else if d % 8 < 6 then putS st (.edge (min (d / 8 % (k + 1)) (d / 72 % (k + 1))) (max (d / 8 % (k + 1)) (d / 72 % (k + 1))))
  else if d % 8 = 6 then putS st (.forget (d / 8 % (k + 1)))
  else if 1 < st.2.length then putJ k st else st
def finJ (k : Nat) (st : LS) : LS := if 1 < st.2.length then putJ k st else st
def drawnOf (ds : List Nat) : List Nat := (ds.drop 1).take (1 + ds.headD 0 % 28)
def lawS (k : Nat) (ds : List Nat) : LS := finJ k (finJ k (finJ k ((drawnOf ds).foldl (putD k) ([.empty], [([], [])]))))
def lawT (k : Nat) (ds : List Nat) : List Stp := (lawS k ds).1
/-! ### how many vertices -/
def vcT (t : Tr) : Nat := (ev t 0).ord.length
theorem ev_len : ∀ (t : Tr) {f : Frm} (n m : Nat), frT t = some f → (ev t n).ord.length = (ev t m).ord.length
  | .empty, _, _, _, _ => rfl
  | .new i t, f, n, m, h => by
    obtain ⟨g, h1, _⟩ := Option.bind_eq_some_iff.mp h
    simp [ev, ev_len t n m h1]
  | .edge i j t, f, n, m, h => by
    obtain ⟨g, h1, _⟩ := Option.bind_eq_some_iff.mp h
    simp only [ev]
    exact ev_len t n m h1
  | .forget i t, f, n, m, h => by
    obtain ⟨g, h1, _⟩ := Option.bind_eq_some_iff.mp h
    simp only [ev]
    exact ev_len t n m h1
  | .join t u, f, n, m, h => by
    obtain ⟨g, h1, h2⟩ := Option.bind_eq_some_iff.mp h
    obtain ⟨g', h3, h4⟩ := Option.bind_eq_some_iff.mp h2
    have key : ∀ n, (ev (.join t u) n).ord.length + (ev u (ev t n).tok).src.length = (ev t n).ord.length + (ev u (ev t n).tok).ord.length := fun n => by
      have U := tokOk (ev t n).tok h3
      simp only [ev, List.length_append]
      have p := (List.filter_append_perm (fun x => decide (¬ x ∈ (ev u (ev t n).tok).src.map (·.2))) (ev u (ev t n).tok).ord).length_eq
      have q : ((ev u (ev t n).tok).ord.filter fun x => !decide (¬ x ∈ (ev u (ev t n).tok).src.map (·.2))).length = (ev u (ev t n).tok).src.length := by
        have pm : ((ev u (ev t n).tok).ord.filter fun x => !decide (¬ x ∈ (ev u (ev t n).tok).src.map (·.2))).Perm ((ev u (ev t n).tok).src.map (·.2)) :=
          (List.perm_ext_iff_of_nodup (U.on.sublist List.filter_sublist) U.vn).mpr fun x => by
            rw [List.mem_filter]
            simp only [Bool.not_eq_true', decide_eq_false_iff_not, Classical.not_not]
            exact ⟨fun q => q.2, fun q => ⟨by obtain ⟨p, hp, rfl⟩ := List.mem_map.mp q; exact U.so p hp, q⟩⟩
        have := pm.length_eq
        simpa using this
      rw [List.length_append] at p
      show (ev t n).ord.length + (restO _ _).length + _ = _
      unfold restO
      omega
    have srcLen : ∀ n, (ev u n).src.length = (srtN g'.1).length := fun n => by
      have U := tokOk n h3
      have nd : g'.1.Nodup := by
        obtain ⟨S, E, B, hI, _, _, e⟩ := own_meaning h3
        rw [← e]
        exact srtN_nodup hI.ok.kn
      have pm : ((ev u n).src.map (·.1)).Perm g'.1 := (List.perm_ext_iff_of_nodup U.kn nd).mpr U.keys
      have := pm.length_eq
      rw [srtN_len, ← this]
      simp
    have a := key n
    have b := key m
    rw [srcLen] at a b
    have c := ev_len t n m h1
    have d := ev_len u (ev t n).tok (ev t m).tok h3
    omega
theorem labels_nd {u : Tr} {g : Frm} (h : frT u = some g) : g.1.Pairwise (· < ·) ∧ ∀ q ∈ g.2, q.1 ∈ g.1 ∧ q.2 ∈ g.1 := by
  obtain ⟨S, E, B, hI, _, _, e⟩ := own_meaning h
  obtain ⟨ps, h1, h2⟩ := hI.frame
  rw [h] at h1
  have e2 := Option.some.inj h1
  rw [e2]
  refine ⟨srtN_lt hI.ok.kn, fun q hq => ?_⟩
  obtain ⟨_, a, b, c, d, _⟩ := (h2 q).mp hq
  exact ⟨mem_srtN.mpr (List.mem_map.mpr ⟨_, c, rfl⟩), mem_srtN.mpr (List.mem_map.mpr ⟨_, d, rfl⟩)⟩
def nE (T : List Stp) : Nat := (T.filter fun s => match s with | .edge _ _ => true | _ => false).length
theorem nE_app (a b : List Stp) : nE (a ++ b) = nE a + nE b := by simp [nE]
/-- the pairs: each once, not more than edge steps -/
theorem pairs_nd : ∀ {u : Tr} {g : Frm}, frT u = some g → g.2.Nodup ∧ g.2.length ≤ nE (post u)
  | .empty, g, h => by
    cases h
    exact ⟨.nil, Nat.zero_le _⟩
  | .new i t, g, h => by
    obtain ⟨g', h1, h2⟩ := Option.bind_eq_some_iff.mp h
    obtain ⟨a, b⟩ := pairs_nd h1
    simp only [nextF] at h2
    split at h2
    · cases h2
    · cases h2
      exact ⟨a, by rw [post, nE_app]; exact Nat.le_trans b (Nat.le_add_right _ _)⟩
  | .edge i j t, g, h => by
    obtain ⟨g', h1, h2⟩ := Option.bind_eq_some_iff.mp h
    obtain ⟨a, b⟩ := pairs_nd h1
    simp only [nextF] at h2
    split at h2
    · rename_i hc
      cases h2
      refine ⟨(srtP_perm _).nodup_iff.mpr (List.nodup_append.mpr ⟨a, by simp, fun x hx y hy e => hc.2.2.2 (by simp at hy; rw [← hy, ← e]; exact hx)⟩), ?_⟩
      rw [post, nE_app]
      dsimp only
      rw [(srtP_perm _).length_eq, List.length_append]
      exact Nat.add_le_add b (Nat.le_refl 1)
    · cases h2
  | .forget i t, g, h => by
    obtain ⟨g', h1, h2⟩ := Option.bind_eq_some_iff.mp h
    obtain ⟨a, b⟩ := pairs_nd h1
    simp only [nextF] at h2
    split at h2
    · cases h2
      refine ⟨a.sublist List.filter_sublist, ?_⟩
      rw [post, nE_app]
      exact Nat.le_trans (List.length_filter_le _ _) (Nat.le_trans b (Nat.le_add_right _ _))
    · cases h2
  | .join t u, g, h => by
    obtain ⟨g1, h1, h2⟩ := Option.bind_eq_some_iff.mp h
    obtain ⟨g2, h3, h4⟩ := Option.bind_eq_some_iff.mp h2
    obtain ⟨a, b⟩ := pairs_nd h1
    obtain ⟨a', b'⟩ := pairs_nd h3
    simp only [nextF] at h4
    split at h4
    · rename_i hc
      cases h4
      refine ⟨(srtP_perm _).nodup_iff.mpr (List.nodup_append.mpr ⟨a, a', fun x hx y hy e => hc.2 y hy (by rw [← e]; exact hx)⟩), ?_⟩
      rw [post, nE_app, nE_app]
      dsimp only
      rw [(srtP_perm _).length_eq, List.length_append]
      omega
    · cases h4
theorem vc_join {t u : Tr} {f g k : Frm} (h1 : frT t = some f) (h2 : frT u = some g) (h : nextF .join [f, g] = some k) : vcT (.join t u) + g.1.length = vcT t + vcT u := by
  have hj : frT (.join t u) = some k := by simp only [frT, h1, h2, Option.bind_some, h]
  have U := tokOk (ev t 0).tok h2
  have nd := nodup_of_lt (labels_nd h2).1
  have pm : ((ev u (ev t 0).tok).src.map (·.1)).Perm g.1 := (List.perm_ext_iff_of_nodup U.kn nd).mpr U.keys
  have p := (List.filter_append_perm (fun x => decide (¬ x ∈ (ev u (ev t 0).tok).src.map (·.2))) (ev u (ev t 0).tok).ord).length_eq
  have pm2 : ((ev u (ev t 0).tok).ord.filter fun x => !decide (¬ x ∈ (ev u (ev t 0).tok).src.map (·.2))).Perm ((ev u (ev t 0).tok).src.map (·.2)) :=
    (List.perm_ext_iff_of_nodup (U.on.sublist List.filter_sublist) U.vn).mpr fun x => by
      rw [List.mem_filter]
      simp only [Bool.not_eq_true', decide_eq_false_iff_not, Classical.not_not]
      exact ⟨fun q => q.2, fun q => ⟨by obtain ⟨p, hp, rfl⟩ := List.mem_map.mp q; exact U.so p hp, q⟩⟩
  have l1 := pm.length_eq
  have l2 := pm2.length_eq
  simp only [List.length_map] at l1 l2
  rw [List.length_append] at p
  have e : (ev u (ev t 0).tok).ord.length = vcT u := ev_len u _ _ h2
  have e2 : vcT (.join t u) = (ev t 0).ord.length + (restO (ev u (ev t 0).tok).src (ev u (ev t 0).tok).ord).length := by simp [vcT, ev]
  have e3 : vcT t = (ev t 0).ord.length := rfl
  unfold restO at e2
  omega
/-! ### the state while the steps are put -/
structure Sti (k : Nat) (st : LS) (ts : List Tr) : Prop where
  post : (ts.map post).flatten = st.1
  fr : ts.map frT = st.2.map some
  ok : ∀ s ∈ st.1, okStp k s
def sumV (ts : List Tr) : Nat := (ts.map vcT).sum
theorem sumV_app (a b : List Tr) : sumV (a ++ b) = sumV a + sumV b := by simp [sumV]
theorem sti_one {k : Nat} {st : LS} {ts : List Tr} {u : Tr} {g g' : Frm} {S : List Frm} {s : Stp} {v : Tr} (h : Sti k st (ts ++ [u])) (e : st.2 = S ++ [g]) (a : ar s = 1) (hn : nextF s [g] = some g') (hv : SWM.post v = SWM.post u ++ [s]) (hf : frT v = some g') (os : okStp k s) :
    putS st s = (st.1 ++ [s], S ++ [g']) ∧ Sti k (putS st s) (ts ++ [v]) := by
  have e1 : putS st s = (st.1 ++ [s], S ++ [g']) := by
    unfold putS
    rw [e, stepF_one a, hn]
    rfl
  refine ⟨e1, ?_⟩
  rw [e1]
  have f := h.fr
  rw [e] at f
  simp only [List.map_append, List.map_cons, List.map_nil] at f
  obtain ⟨f1, f2⟩ := List.append_inj' f rfl
  refine ⟨?_, by simp only [List.map_append, List.map_cons, List.map_nil, f1, hf], fun x hx => ?_⟩
  · rw [← h.post]
    simp [hv]
  · rcases List.mem_append.mp hx with q | q
    · exact h.ok x q
    · simp at q; subst q; exact os
theorem Sti.snoc {k : Nat} {st : LS} {ts : List Tr} (h : Sti k st ts) {S : List Frm} {g : Frm} (e : st.2 = S ++ [g]) : ∃ ts' u, ts = ts' ++ [u] ∧ ts'.map frT = S.map some ∧ frT u = some g := by
  have f := h.fr
  rw [e, List.map_append] at f
  exact map_snoc f
theorem putS_none {st : LS} {s : Stp} (h : stepF s st.2 = none) : putS st s = st := by unfold putS; rw [h]
/-- a drawn step: at most one vertex, one edge, one step more -/
theorem sti_put {k : Nat} {st : LS} {ts : List Tr} (h : Sti k st ts) {s : Stp} (hs : s ≠ .join) (os : okStp k s) :
    ∃ ts', Sti k (putS st s) ts' ∧ sumV ts' ≤ sumV ts + 1 ∧ (putS st s).1.length ≤ st.1.length + 1 ∧ nE (putS st s).1 ≤ nE st.1 + 1 ∧ (putS st s).2.length ≤ st.2.length + 1 ∧ (s ≠ .empty → (putS st s).2.length = st.2.length) ∧ st.2.length ≤ (putS st s).2.length := by
  cases e : stepF s st.2 with
  | none =>
    rw [putS_none e]
    exact ⟨ts, h, by omega, by omega, by omega, by omega, fun _ => rfl, Nat.le_refl _⟩
  | some fs =>
    have ep : putS st s = (st.1 ++ [s], fs) := by unfold putS; rw [e]
    have n1 : nE [s] ≤ 1 := by simp only [nE]; exact Nat.le_trans (List.length_filter_le _ _) (by simp)
    rcases stepF_cases e with ⟨_, rfl, rfl⟩ | ⟨a, S, g, g', e2, hn, rfl⟩ | ⟨rfl, _⟩
    · refine ⟨ts ++ [.empty], ?_, ?_, ?_, ?_, ?_, ?_, ?_⟩
      · rw [ep]
        refine ⟨by rw [← h.post]; simp [post], by simp [h.fr, frT], fun x hx => ?_⟩
        rcases List.mem_append.mp hx with q | q
        · exact h.ok x q
        · simp at q; subst q; trivial
      · rw [sumV_app]
        have : sumV [Tr.empty] = 0 := rfl
        omega
      · rw [ep]; simp
      · rw [ep, nE_app]; omega
      · rw [ep]; simp
      · exact fun q => absurd rfl q
      · rw [ep]; simp
    · obtain ⟨ts', u, rfl, h1, h2⟩ := h.snoc e2
      have mk : ∀ v : Tr, post v = post u ++ [s] → frT v = some g' → vcT v ≤ vcT u + 1 → ∃ ts2, Sti k (putS st s) ts2 ∧ sumV ts2 ≤ sumV (ts' ++ [u]) + 1 ∧ (putS st s).1.length ≤ st.1.length + 1 ∧ nE (putS st s).1 ≤ nE st.1 + 1 ∧ (putS st s).2.length ≤ st.2.length + 1 ∧ (s ≠ .empty → (putS st s).2.length = st.2.length) ∧ st.2.length ≤ (putS st s).2.length := fun v hv hf hc => by
        obtain ⟨_, k2⟩ := sti_one h e2 a hn hv hf os
        refine ⟨_, k2, ?_, by rw [ep]; simp, by rw [ep, nE_app]; omega, by rw [ep, e2]; simp, fun _ => by rw [ep, e2]; simp, by rw [ep, e2]; simp⟩
        rw [sumV_app, sumV_app]
        simp only [sumV, List.map_cons, List.map_nil, List.sum_cons, List.sum_nil]
        omega
      cases s with
      | empty => cases a
      | new i => exact mk (.new i u) rfl (by simp only [frT, h2, Option.bind_some, hn]) (by simp [vcT, ev])
      | edge i j => exact mk (.edge i j u) rfl (by simp only [frT, h2, Option.bind_some, hn]) (by simp [vcT, ev])
      | forget i => exact mk (.forget i u) rfl (by simp only [frT, h2, Option.bind_some, hn]) (by simp [vcT, ev])
      | join => cases a
    · exact absurd rfl hs
/-! ### a join is made fit, and put -/
/-- while the upper graph is made fit: xs are the steps put, c the new vertices -/
structure Fit (k : Nat) (st0 : LS) (S : List Frm) (low : Frm) (ts : List Tr) (u0 : Tr) (st : LS) (g : Frm) (u : Tr) (c m : Nat) : Prop where
  sti : Sti k st (ts ++ [u])
  two : st.2 = S ++ [low] ++ [g]
  fu : frT u = some g
  vc : vcT u ≤ vcT u0 + c
  len : st.1.length ≤ st0.1.length + m
  ne : nE st.1 = nE st0.1
theorem Fit.top {k st0 S low ts u0 st g u c m} (h : Fit k st0 S low ts u0 st g u c m) : topF st = g := by unfold topF; rw [h.two, List.getLastD_concat]
theorem Fit.forget {k st0 S low ts u0 st g u c m} (h : Fit k st0 S low ts u0 st g u c m) {i : Nat} (hi : i ∈ g.1) (hk : i ≤ k) :
    ∃ u', Fit k st0 S low ts u0 (putS st (.forget i)) (g.1.filter (fun x => decide (x ≠ i)), g.2.filter fun q => decide (¬ (i = q.1 ∨ i = q.2))) u' c (m + 1) := by
  have hn : nextF (.forget i) [g] = some (g.1.filter (fun x => decide (x ≠ i)), g.2.filter fun q => decide (¬ (i = q.1 ∨ i = q.2))) := by simp only [nextF]; rw [if_pos hi]
  have hf : frT (.forget i u) = some (g.1.filter (fun x => decide (x ≠ i)), g.2.filter fun q => decide (¬ (i = q.1 ∨ i = q.2))) := by simp only [frT, h.fu, Option.bind_some, hn]
  obtain ⟨e, k2⟩ := sti_one h.sti h.two (s := .forget i) rfl hn (v := .forget i u) rfl hf hk
  refine ⟨.forget i u, k2, by rw [e], hf, h.vc, ?_, ?_⟩
  · rw [e]
    have := h.len
    simp
    omega
  · rw [e, nE_app, h.ne]
    rfl
theorem Fit.new {k st0 S low ts u0 st g u c m} (h : Fit k st0 S low ts u0 st g u c m) {i : Nat} (hi : ¬ i ∈ g.1) (hk : i ≤ k) :
    ∃ u', Fit k st0 S low ts u0 (putS st (.new i)) (srtN (g.1 ++ [i]), g.2) u' (c + 1) (m + 1) := by
  have hn : nextF (.new i) [g] = some (srtN (g.1 ++ [i]), g.2) := by simp only [nextF]; rw [if_neg hi]
  have hf : frT (.new i u) = some (srtN (g.1 ++ [i]), g.2) := by simp only [frT, h.fu, Option.bind_some, hn]
  obtain ⟨e, k2⟩ := sti_one h.sti h.two (s := .new i) rfl hn (v := .new i u) rfl hf hk
  refine ⟨.new i u, k2, by rw [e], hf, ?_, ?_, ?_⟩
  · have := h.vc
    have e2 : vcT (.new i u) = vcT u + 1 := by simp [vcT, ev]
    omega
  · rw [e]
    have := h.len
    simp
    omega
  · rw [e, nE_app, h.ne]
    rfl
theorem Fit.same_new {k st0 S low ts u0 st g u c m} (h : Fit k st0 S low ts u0 st g u c m) {i : Nat} (hi : i ∈ g.1) : putS st (.new i) = st := by
  refine putS_none ?_
  rw [h.two, stepF_one (s := .new i) rfl]
  simp only [nextF]
  rw [if_pos hi]
  rfl
theorem Fit.more {k st0 S low ts u0 st g u c m c' m'} (h : Fit k st0 S low ts u0 st g u c m) (hc : c ≤ c') (hm : m ≤ m') : Fit k st0 S low ts u0 st g u c' m' := ⟨h.sti, h.two, h.fu, by have := h.vc; omega, by have := h.len; omega, h.ne⟩
theorem Fit.lab {k st0 S low ts u0 st g u c m} (h : Fit k st0 S low ts u0 st g u c m) : ∀ x ∈ g.1, x ≤ k := by
  have ok : ∀ s ∈ post u, okStp k s := fun s hs => h.sti.ok s (by rw [← h.sti.post]; simp [hs])
  exact (frT_good ok h.fu).2
theorem fit_pairs {k st0 S low ts u0} : ∀ (ps : List (Nat × Nat)) {st g u c m}, Fit k st0 S low ts u0 st g u c m → ∃ st' g' u', ps.foldl pj1 st = st' ∧ Fit k st0 S low ts u0 st' g' u' c (m + ps.length) ∧ (∀ q ∈ ps, ¬ q ∈ g'.2) ∧ ∀ q ∈ g'.2, q ∈ g.2
  | [], st, g, u, c, m, h => ⟨st, g, u, rfl, h, by simp, fun _ q => q⟩
  | p :: r, st, g, u, c, m, h => by
    have key : ∃ g1 u1, Fit k st0 S low ts u0 (pj1 st p) g1 u1 c (m + 1) ∧ ¬ p ∈ g1.2 ∧ ∀ q ∈ g1.2, q ∈ g.2 := by
      unfold pj1
      rw [h.top]
      by_cases hp : p ∈ g.2
      · rw [if_pos hp]
        have hl := ((labels_nd h.fu).2 p hp).1
        obtain ⟨u', k1⟩ := h.forget hl (h.lab _ hl)
        refine ⟨_, u', k1, fun q => ?_, fun q hq => (List.mem_filter.mp hq).1⟩
        have := of_decide_eq_true (List.mem_filter.mp q).2
        exact this (.inl rfl)
      · rw [if_neg hp]
        exact ⟨g, u, h.more (Nat.le_refl _) (Nat.le_succ _), hp, fun _ q => q⟩
    obtain ⟨g1, u1, k1, k2, k3⟩ := key
    obtain ⟨st', g', u', e, f1, f2, f3⟩ := fit_pairs r k1
    refine ⟨st', g', u', e, f1.more (Nat.le_refl _) (by simp; omega), fun q hq => ?_, fun q hq => k3 q (f3 q hq)⟩
    rcases List.mem_cons.mp hq with rfl | z
    · exact fun y => k2 (f3 q y)
    · exact f2 q z
theorem fit_labels {k st0 S low ts u0} (hl : ∀ x ∈ low.1, x ≤ k) : ∀ (n : Nat) {st g u c m}, Fit k st0 S low ts u0 st g u c m → n ≤ k + 1 → ∃ st' g' u', (List.range n).foldl (pj2 low) st = st' ∧ Fit k st0 S low ts u0 st' g' u' (c + (low.1.filter fun x => decide (x < n)).length) (m + 2 * n) ∧
    (∀ x, x < n → (x ∈ g'.1 ↔ x ∈ low.1)) ∧ (∀ q ∈ g'.2, q ∈ g.2)
  | 0, st, g, u, c, m, h, _ => ⟨st, g, u, rfl, h.more (by omega) (by omega), by omega, fun _ q => q⟩
  | n + 1, st, g, u, c, m, h, hn => by
    obtain ⟨st1, g1, u1, e1, f1, f2, f3⟩ := fit_labels hl n h (by omega)
    rw [List.range_succ, List.foldl_append, e1]
    simp only [List.foldl_cons, List.foldl_nil]
    unfold pj2
    rw [f1.top]
    -- first the label that the lower graph lacks
    have a : ∃ g2 u2, Fit k st0 S low ts u0 (if n ∈ g1.1 ∧ ¬ n ∈ low.1 then putS st1 (.forget n) else st1) g2 u2 (c + (low.1.filter fun x => decide (x < n)).length) (m + 2 * n + 1) ∧
        (∀ x, x < n → (x ∈ g2.1 ↔ x ∈ low.1)) ∧ (¬ n ∈ low.1 → ¬ n ∈ g2.1) ∧ ∀ q ∈ g2.2, q ∈ g1.2 := by
      by_cases q : n ∈ g1.1 ∧ ¬ n ∈ low.1
      · rw [if_pos q]
        obtain ⟨u2, k1⟩ := f1.forget q.1 (by omega)
        refine ⟨_, u2, k1, fun x hx => ?_, fun _ z => ?_, fun q hq => (List.mem_filter.mp hq).1⟩
        · dsimp only
          rw [List.mem_filter, f2 x hx]
          simp
          omega
        · dsimp only at z
          have := of_decide_eq_true (List.mem_filter.mp z).2
          exact this rfl
      · rw [if_neg q]
        exact ⟨g1, u1, f1.more (Nat.le_refl _) (Nat.le_succ _), f2, fun z y => q ⟨y, z⟩, fun _ q => q⟩
    obtain ⟨g2, u2, b1, b2, b3, b4⟩ := a
    have cnt : (low.1.filter fun x => decide (x < n)).length ≤ (low.1.filter fun x => decide (x < n + 1)).length := by
      rw [← List.countP_eq_length_filter, ← List.countP_eq_length_filter]
      exact List.countP_mono_left fun x _ h => by simp at h ⊢; omega
    by_cases z : n ∈ low.1
    · rw [if_pos z]
      by_cases y : n ∈ g2.1
      · rw [b1.same_new y]
        refine ⟨_, g2, u2, rfl, b1.more (by omega) (by omega), fun x hx => ?_, fun q hq => f3 q (b4 q hq)⟩
        rcases Nat.lt_or_eq_of_le (Nat.le_of_lt_succ hx) with w | w
        · exact b2 x w
        · subst w; exact ⟨fun _ => z, fun _ => y⟩
      · obtain ⟨u3, k1⟩ := b1.new y (by omega)
        have cnt2 : (low.1.filter fun x => decide (x < n)).length + 1 ≤ (low.1.filter fun x => decide (x < n + 1)).length := by
          have e : (low.1.filter fun x => decide (x < n)) = (low.1.filter fun x => decide (x < n + 1)).filter fun x => decide (x < n) := by
            rw [List.filter_filter]
            refine List.filter_congr fun x _ => ?_
            by_cases w : x < n
            · simp [w]; omega
            · simp [w]
          rw [e]
          exact List.length_filter_lt_length_iff_exists.mpr ⟨n, List.mem_filter.mpr ⟨z, by simp⟩, by simp⟩
        refine ⟨_, _, u3, rfl, k1.more (by omega) (by omega), fun x hx => ?_, fun q hq => f3 q (b4 q hq)⟩
        dsimp only
        rw [mem_srtN, List.mem_append, List.mem_singleton]
        rcases Nat.lt_or_eq_of_le (Nat.le_of_lt_succ hx) with w | w
        · rw [b2 x w]
          exact ⟨fun q => q.elim id fun q => by omega, .inl⟩
        · subst w; exact ⟨fun _ => z, fun _ => .inr rfl⟩
    · rw [if_neg z]
      refine ⟨_, g2, u2, rfl, b1.more (by omega) (by omega), fun x hx => ?_, fun q hq => f3 q (b4 q hq)⟩
      rcases Nat.lt_or_eq_of_le (Nat.le_of_lt_succ hx) with w | w
      · exact b2 x w
      · subst w; exact ⟨fun y => absurd y (b3 z), fun y => absurd y z⟩
/-- the join: no vertex, no edge more; one graph less -/
theorem sti_join {k : Nat} (hk : k ≤ 4) {st : LS} {ts : List Tr} (h : Sti k st ts) (h2 : 1 < st.2.length) :
    ∃ ts', Sti k (putJ k st) ts' ∧ sumV ts' ≤ sumV ts ∧ (putJ k st).1.length ≤ st.1.length + ((lowF st).2.length + 2 * (k + 1) + 1) ∧ nE (putJ k st).1 = nE st.1 ∧ (putJ k st).2.length + 1 = st.2.length ∧ (lowF st).2.length ≤ 25 := by
  obtain ⟨S1, g, e1⟩ := snoc_of_pos (l := st.2) (by omega)
  obtain ⟨S, low, rfl⟩ := snoc_of_pos (l := S1) (by rw [e1] at h2; simp at h2; omega)
  obtain ⟨ts1, u, rfl, a1, a2⟩ := h.snoc e1
  rw [List.map_append] at a1
  obtain ⟨ts0, t, rfl, a3, a4⟩ := map_snoc a1
  have lo : lowF st = low := by unfold lowF; rw [e1, List.dropLast_concat, List.getLastD_concat]
  have F0 : Fit k st S low (ts0 ++ [t]) u st g u 0 0 := ⟨h, e1, a2, Nat.le_refl _, Nat.le_refl _, rfl⟩
  have okt : ∀ s ∈ post t, okStp k s := fun s hs => h.ok s (by rw [← h.post]; simp [hs])
  have hl := (frT_good okt a4).2
  obtain ⟨st1, g1, u1, b1, b2, b3, b3'⟩ := fit_pairs low.2 F0
  obtain ⟨st2, g2, u2, c1, c2, c3, c4⟩ := fit_labels hl (k + 1) b2 (Nat.le_refl _)
  have eq1 : g2.1 = low.1 := lt_ext (labels_nd c2.fu).1 (labels_nd a4).1 fun x => by
    by_cases q : x < k + 1
    · exact c3 x q
    · exact ⟨fun z => absurd (c2.lab x z) (by omega), fun z => absurd (hl x z) (by omega)⟩
  have dis : ∀ q ∈ g2.2, ¬ q ∈ low.2 := fun q hq z => b3 q z (c4 q hq)
  have hn : nextF .join [low, g2] = some (low.1, srtP (low.2 ++ g2.2)) := by
    simp only [nextF]
    rw [if_pos ⟨eq1, dis⟩]
  have ep : putJ k st = (st2.1 ++ [.join], S ++ [(low.1, srtP (low.2 ++ g2.2))]) := by
    unfold putJ
    rw [lo, b1, c1]
    unfold putS
    have e : S ++ [low] ++ [g2] = S ++ [low, g2] := by simp
    rw [c2.two, e, stepF_join, hn]
    rfl
  have hfj : frT (.join t u2) = some (low.1, srtP (low.2 ++ g2.2)) := by simp only [frT, a4, c2.fu, Option.bind_some, hn]
  have vj := vc_join a4 c2.fu hn
  have fl : (low.1.filter fun x => decide (x < k + 1)).length ≤ g2.1.length := by rw [eq1]; exact List.length_filter_le _ _
  have vu := c2.vc
  have f := c2.sti
  refine ⟨ts0 ++ [.join t u2], ?_, ?_, ?_, ?_, ?_, ?_⟩
  · rw [ep]
    refine ⟨?_, ?_, fun s hs => ?_⟩
    · have := f.post
      simp at this
      simp [post, ← this]
    · simp [a3, hfj]
    · rcases List.mem_append.mp hs with q | q
      · exact f.ok s q
      · simp at q; subst q; trivial
  · simp only [sumV_app]
    simp only [sumV, List.map_cons, List.map_nil, List.sum_cons, List.sum_nil]
    omega
  · rw [ep, lo]
    have := c2.len
    simp
    omega
  · rw [ep, nE_app, c2.ne]
    rfl
  · rw [ep, e1]
    simp
  · rw [lo]
    refine Nat.le_trans (List.Nodup.length_le_of_subset (pairs_nd a4).1 (l₂ := (List.range 25).map fun x => (x / 5, x % 5)) fun q hq => ?_) (by simp)
    obtain ⟨q1, q2⟩ := (labels_nd a4).2 q hq
    have h1 := hl _ q1
    have h2 := hl _ q2
    exact List.mem_map.mpr ⟨5 * q.1 + q.2, List.mem_range.mpr (by omega), Prod.ext (by dsimp only; omega) (by dsimp only; omega)⟩
/-! ### the law's term -/
structure LInv (k n : Nat) (st : LS) (ts : List Tr) : Prop where
  sti : Sti k st ts
  vc : sumV ts ≤ n
  ne : nE st.1 ≤ n
  len : st.1.length ≤ 1 + n * (28 + 2 * (k + 1))
  lo : 1 ≤ st.2.length
  hi : st.2.length ≤ 3
theorem linv_put {k n : Nat} {st : LS} {ts : List Tr} (h : LInv k n st ts) {s : Stp} (hs : s ≠ .join) (os : okStp k s) (he : s = .empty → st.2.length < 3) : ∃ ts', LInv k (n + 1) (putS st s) ts' := by
  obtain ⟨ts', a, b, c, d, e, f, g⟩ := sti_put h.sti hs os
  have h1 := h.vc
  have h2 := h.ne
  have h3 := h.len
  have h4 := h.lo
  have h5 := h.hi
  have m : (n + 1) * (28 + 2 * (k + 1)) = n * (28 + 2 * (k + 1)) + (28 + 2 * (k + 1)) := Nat.succ_mul _ _
  refine ⟨ts', a, by omega, by omega, by omega, by omega, ?_⟩
  by_cases q : s = .empty
  · have := he q; omega
  · rw [f q]; exact h5
theorem linv_join {k n : Nat} (hk : k ≤ 4) {st : LS} {ts : List Tr} (h : LInv k n st ts) (h2 : 1 < st.2.length) (hn : n ≤ 28) : ∃ ts', LInv k (n + 1) (putJ k st) ts' ∧ sumV ts' ≤ n ∧ nE (putJ k st).1 ≤ n ∧ (putJ k st).2.length + 1 = st.2.length ∧ (putJ k st).1.length ≤ st.1.length + (28 + 2 * (k + 1)) := by
  obtain ⟨ts', a, b, c, d, e, f⟩ := sti_join hk h.sti h2
  have h1 := h.vc
  have h2' := h.ne
  have h3 := h.len
  have h4 := h.lo
  have h5 := h.hi
  have m : (n + 1) * (28 + 2 * (k + 1)) = n * (28 + 2 * (k + 1)) + (28 + 2 * (k + 1)) := Nat.succ_mul _ _
  exact ⟨ts', ⟨a, by omega, by omega, by omega, by omega, by omega⟩, by omega, by omega, e, by omega⟩
theorem linv_more {k n m : Nat} {st : LS} {ts : List Tr} (h : LInv k n st ts) (hm : n ≤ m) : LInv k m st ts :=
  ⟨h.sti, by have := h.vc; omega, by have := h.ne; omega, Nat.le_trans h.len (Nat.add_le_add_left (Nat.mul_le_mul_right _ hm) 1), h.lo, h.hi⟩
theorem linv_draw {k n : Nat} (hk : k ≤ 4) {st : LS} {ts : List Tr} (h : LInv k n st ts) (d : Nat) (hn : n < 28) : ∃ ts', LInv k (n + 1) (putD k st d) ts' := by
  have mi : d / 8 % (k + 1) ≤ k := Nat.le_of_lt_succ (Nat.mod_lt _ (Nat.succ_pos _))
  have mj : d / 72 % (k + 1) ≤ k := Nat.le_of_lt_succ (Nat.mod_lt _ (Nat.succ_pos _))
  unfold putD
  by_cases c1 : d % 8 = 0 ∧ st.2.length < 3
  · rw [if_pos c1]
    exact linv_put h (by simp) trivial fun _ => c1.2
  rw [if_neg c1]
  by_cases c2 : d % 8 < 4
  · rw [if_pos c2]
    exact linv_put h (by simp) mi (by simp)
  rw [if_neg c2]
  by_cases c3 : d % 8 < 6
  · rw [if_pos c3]
    exact linv_put h (by simp) ⟨by omega, by omega⟩ (by simp)
  rw [if_neg c3]
  by_cases c4 : d % 8 = 6
  · rw [if_pos c4]
    exact linv_put h (by simp) mi (by simp)
  rw [if_neg c4]
  by_cases c5 : 1 < st.2.length
  · rw [if_pos c5]
    obtain ⟨ts', a, _⟩ := linv_join hk h c5 (by omega)
    exact ⟨ts', a⟩
  · rw [if_neg c5]
    exact ⟨ts, linv_more h (Nat.le_succ _)⟩
theorem linv_drawn {k : Nat} (hk : k ≤ 4) : ∀ (l : List Nat) {n : Nat} {st : LS} {ts : List Tr}, LInv k n st ts → n + l.length ≤ 28 → ∃ ts', LInv k (n + l.length) (l.foldl (putD k) st) ts'
  | [], n, st, ts, h, _ => ⟨ts, h⟩
  | d :: r, n, st, ts, h, hn => by
    simp only [List.length_cons] at hn
    obtain ⟨ts', a⟩ := linv_draw hk h d (by omega)
    obtain ⟨ts2, b⟩ := linv_drawn hk r a (by omega)
    exact ⟨ts2, linv_more b (by simp only [List.length_cons]; omega)⟩
/-- what the end needs: bounds that the last joins keep -/
structure EInv (k b : Nat) (st : LS) (ts : List Tr) : Prop where
  sti : Sti k st ts
  vc : sumV ts ≤ 28
  ne : nE st.1 ≤ 28
  len : st.1.length ≤ b
  lo : 1 ≤ st.2.length
theorem einv_fin {k b : Nat} (hk : k ≤ 4) {st : LS} {ts : List Tr} (h : EInv k b st ts) : ∃ ts', EInv k (b + (28 + 2 * (k + 1))) (finJ k st) ts' ∧ (finJ k st).2.length = max 1 (st.2.length - 1) := by
  have h1 := h.vc
  have h2' := h.ne
  have h3 := h.len
  have h4 := h.lo
  unfold finJ
  by_cases q : 1 < st.2.length
  · rw [if_pos q]
    obtain ⟨ts', a, b, c, d, e, f⟩ := sti_join hk h.sti q
    exact ⟨ts', ⟨a, by omega, by omega, by omega, by omega⟩, by omega⟩
  · rw [if_neg q]
    exact ⟨ts, ⟨h.sti, h1, h2', by omega, h4⟩, by omega⟩
theorem nE_eds (t : Tr) : ∀ n, (ev t n).eds.length = nE (post t) := by
  induction t with
  | empty => intro n; rfl
  | new i t ih => intro n; rw [post, nE_app]; simp only [ev, ih]; rfl
  | edge i j t ih => intro n; rw [post, nE_app]; simp only [ev, List.length_append, ih]; rfl
  | forget i t ih => intro n; rw [post, nE_app]; simp only [ev, ih]; rfl
  | join t u ih ih' => intro n; rw [post, nE_app, nE_app]; simp only [ev, List.length_append, ih, ih']; rfl
/-- the law's term: a term for k, few steps, vertices, edges -/
theorem lawT_ok (k : Nat) (hk : k ≤ 4) (ds : List Nat) : ∃ f, IsTerm (lawT k ds) k f ∧ (lawT k ds).length ≤ 1200 ∧ sizeT (lawT k ds) ≤ 28 ∧ (graphT (lawT k ds)).length ≤ 28 := by
  have h0 : LInv k 0 ([.empty], [([], [])]) [.empty] := ⟨⟨rfl, rfl, fun s hs => by simp at hs; subst hs; trivial⟩, by decide, by decide, by simp, by simp, by simp⟩
  have ld : (drawnOf ds).length ≤ 28 := by
    unfold drawnOf
    rw [List.length_take]
    have := Nat.mod_lt (ds.headD 0) (show 0 < 28 by decide)
    omega
  obtain ⟨ts1, a⟩ := linv_drawn hk (drawnOf ds) h0 (by omega)
  have a := linv_more a (show 0 + (drawnOf ds).length ≤ 28 by omega)
  have e0 : EInv k (1 + 28 * (28 + 2 * (k + 1))) ((drawnOf ds).foldl (putD k) ([.empty], [([], [])])) ts1 := ⟨a.sti, a.vc, a.ne, a.len, a.lo⟩
  obtain ⟨ts2, e1, l1⟩ := einv_fin hk e0
  obtain ⟨ts3, e2, l2⟩ := einv_fin hk e1
  obtain ⟨ts4, e3, l3⟩ := einv_fin hk e2
  have hi := a.hi
  have one : (lawS k ds).2.length = 1 := by
    show (finJ k (finJ k (finJ k _))).2.length = 1
    omega
  obtain ⟨S, g, eS⟩ := snoc_of_pos (l := (lawS k ds).2) (by omega)
  have S0 : S = [] := by
    rw [eS] at one
    simpa using one
  subst S0
  obtain ⟨ts', t, rfl, m1, m2⟩ := Sti.snoc (k := k) (st := lawS k ds) (ts := ts4) e3.sti eS
  have ts0 : ts' = [] := List.map_eq_nil_iff.mp m1
  subst ts0
  have pt : post t = lawT k ds := by
    have : ([t].map post).flatten = lawT k ds := e3.sti.post
    simpa using this
  have len : (lawT k ds).length ≤ 1200 := by
    have : (lawT k ds).length ≤ _ := e3.len
    omega
  refine ⟨g, ⟨e3.sti.ok, ?_⟩, len, ?_, ?_⟩
  · rw [← pt]
    simpa using runF_post m2 []
  · have : sumV [t] ≤ 28 := e3.vc
    simp [sumV] at this
    rw [← pt]
    unfold sizeT
    rw [ordT_eq]
    exact this
  · have : nE (lawS k ds).1 ≤ 28 := e3.ne
    unfold graphT edgesT
    rw [(srtP_perm _).length_eq, List.length_map, ← pt, bld_eq]
    dsimp only
    rw [nE_eds, pt]
    exact this
end SWM


/-! The steps one by one: what stands behind each prefix. -/
namespace SWM
theorem runF_app (a b : List Stp) (st : List Frm) : runF (a ++ b) st = (runF a st).bind (runF b) := by
  induction a generalizing st with
  | nil => rfl
  | cons s r ih =>
    show (match stepF s st with | some st' => runF (r ++ b) st' | none => none) = (match stepF s st with | some st' => runF r st' | none => none).bind (runF b)
    cases stepF s st with
    | none => rfl
    | some st' => exact ih st'
/-- a run of all: each step of it -/
theorem run_at {T : List Stp} {f : List Frm} (h : runF T [] = some f) {i : Nat} {s : Stp} (hs : T[i]? = some s) {st : List Frm} (hst : runF (T.take i) [] = some st) : ∃ st', stepF s st = some st' ∧ runF (T.take (i + 1)) [] = some st' := by
  have e : T.take (i + 1) = T.take i ++ [s] := by rw [List.take_add_one, hs]; rfl
  have h2 : runF (T.take (i + 1) ++ T.drop (i + 1)) [] = some f := by rw [List.take_append_drop]; exact h
  rw [runF_app] at h2
  cases q : runF (T.take (i + 1)) [] with
  | none => rw [q] at h2; cases h2
  | some st' =>
    refine ⟨st', ?_, rfl⟩
    rw [e, runF_app, hst] at q
    rw [← runF_one]; exact q
theorem frs_app (a b : List Stp) (st st' : List Frm) (h : runF a st = some st') : frs (a ++ b) st = frs a st ++ frs b st' := by
  induction a generalizing st with
  | nil =>
    have e : st = st' := Option.some.inj h
    rw [e]; rfl
  | cons s r ih =>
    have h' : (match stepF s st with | some st1 => runF r st1 | none => none) = some st' := h
    show (match stepF s st with | some st1 => st1.getLastD ([], []) :: frs (r ++ b) st1 | none => []) = (match stepF s st with | some st1 => st1.getLastD ([], []) :: frs r st1 | none => []) ++ frs b st'
    cases q : stepF s st with
    | none => rw [q] at h'; cases h'
    | some st1 =>
      rw [q] at h'
      show _ :: frs (r ++ b) st1 = _ :: (frs r st1 ++ frs b st')
      rw [ih st1 h']
theorem frs_at {T : List Stp} {i : Nat} {s : Stp} (hs : T[i]? = some s) {st st' : List Frm} (hst : runF (T.take i) [] = some st) (h : stepF s st = some st') : frs (T.take (i + 1)) [] = frs (T.take i) [] ++ [st'.getLastD ([], [])] := by
  have e : T.take (i + 1) = T.take i ++ [s] := by rw [List.take_add_one, hs]; rfl
  rw [e, frs_app _ _ _ _ hst]
  congr 1
  show (match stepF s st with | some st1 => st1.getLastD ([], []) :: frs [] st1 | none => []) = _
  rw [h]; rfl
theorem frs_len : ∀ (T : List Stp) (st : List Frm), (frs T st).length ≤ T.length
  | [], _ => Nat.zero_le _
  | s :: r, st => by
    show (match stepF s st with | some st1 => st1.getLastD ([], []) :: frs r st1 | none => []).length ≤ r.length + 1
    cases stepF s st with
    | none => simp
    | some st1 =>
      have := frs_len r st1
      simp only [List.length_cons]; omega
def szF (f : Frm) : Nat := f.1.length + f.2.length
def sumF (st : List Frm) : Nat := (st.map szF).sum
theorem sumF_app (a b : List Frm) : sumF (a ++ b) = sumF a + sumF b := by simp [sumF]
theorem next_sz {s : Stp} {fs : List Frm} {f : Frm} (hl : fs.length = ar s) (h : nextF s fs = some f) : szF f ≤ sumF fs + 1 := by
  cases s with
  | empty =>
    have e : f = ([], []) := (Option.some.inj h).symm
    rw [e]; simp [szF]
  | new i =>
    obtain ⟨g, rfl⟩ : ∃ f, fs = [f] := List.length_eq_one_iff.mp hl
    have h' : (if i ∈ g.1 then none else some (srtN (g.1 ++ [i]), g.2)) = some f := h
    split at h'
    · cases h'
    · have e := Option.some.inj h'
      rw [← e]
      simp only [szF, sumF, srtN_len, List.length_append, List.map_cons, List.map_nil, List.sum_cons, List.sum_nil, List.length_singleton]
      omega
  | forget i =>
    obtain ⟨g, rfl⟩ : ∃ f, fs = [f] := List.length_eq_one_iff.mp hl
    have h' : (if i ∈ g.1 then some (g.1.filter (fun x => decide (x ≠ i)), g.2.filter fun q => decide (¬ (i = q.1 ∨ i = q.2))) else none) = some f := h
    split at h'
    · have e := Option.some.inj h'
      rw [← e]
      have h1 := List.length_filter_le (fun x => decide (x ≠ i)) g.1
      have h2 := List.length_filter_le (fun q => decide (¬ (i = q.1 ∨ i = q.2))) g.2
      simp only [szF, sumF, List.map_cons, List.map_nil, List.sum_cons, List.sum_nil]
      omega
    · cases h'
  | edge i j =>
    obtain ⟨g, rfl⟩ : ∃ f, fs = [f] := List.length_eq_one_iff.mp hl
    have h' : (if i < j ∧ i ∈ g.1 ∧ j ∈ g.1 ∧ ¬ (i, j) ∈ g.2 then some (g.1, srtP (g.2 ++ [(i, j)])) else none) = some f := h
    split at h'
    · have e := Option.some.inj h'
      rw [← e]
      have h1 := (srtP_perm (g.2 ++ [(i, j)])).length_eq
      simp only [List.length_append, List.length_singleton] at h1
      simp only [szF, sumF, List.map_cons, List.map_nil, List.sum_cons, List.sum_nil]
      omega
    · cases h'
  | join =>
    match fs, hl with
    | [g, k], _ =>
      have h' : (if k.1 = g.1 ∧ ∀ q ∈ k.2, ¬ q ∈ g.2 then some (g.1, srtP (g.2 ++ k.2)) else none) = some f := h
      split at h'
      · have e := Option.some.inj h'
        rw [← e]
        have h1 := (srtP_perm (g.2 ++ k.2)).length_eq
        simp only [List.length_append] at h1
        simp only [szF, sumF, List.map_cons, List.map_nil, List.sum_cons, List.sum_nil]
        omega
      · cases h'
theorem step_inv {s : Stp} {st st' : List Frm} (h : stepF s st = some st') : ¬ st.length < ar s ∧ ∃ f, nextF s (st.drop (st.length - ar s)) = some f ∧ st' = st.take (st.length - ar s) ++ [f] := by
  unfold stepF at h
  split at h
  · cases h
  · refine ⟨by assumption, ?_⟩
    cases q : nextF s (st.drop (st.length - ar s)) with
    | none => rw [q] at h; cases h
    | some f => rw [q] at h; exact ⟨f, rfl, (Option.some.inj h).symm⟩
theorem step_sz {s : Stp} {st st' : List Frm} (h : stepF s st = some st') : sumF st' ≤ sumF st + 1 ∧ st'.length ≤ st.length + 1 := by
  obtain ⟨h1, f, h2, rfl⟩ := step_inv h
  have q := next_sz (by rw [List.length_drop]; omega) h2
  have e : sumF st = sumF (st.take (st.length - ar s)) + sumF (st.drop (st.length - ar s)) := by rw [← sumF_app, List.take_append_drop]
  refine ⟨?_, ?_⟩
  · rw [sumF_app]
    have : sumF [f] = szF f := by simp [sumF]
    omega
  · rw [List.length_append, List.length_take, List.length_singleton]; omega
theorem run_sz : ∀ (T : List Stp) {st st' : List Frm}, runF T st = some st' → sumF st' ≤ sumF st + T.length ∧ st'.length ≤ st.length + T.length
  | [], st, st', h => by
    have e : st = st' := Option.some.inj h
    rw [e]; simp
  | s :: r, st, st', h => by
    have h' : (match stepF s st with | some st1 => runF r st1 | none => none) = some st' := h
    cases q : stepF s st with
    | none => rw [q] at h'; cases h'
    | some st1 =>
      rw [q] at h'
      have h1 := step_sz q
      have h2 := run_sz r h'
      simp only [List.length_cons]; omega
theorem sz_mem {st : List Frm} {f : Frm} (h : f ∈ st) : szF f ≤ sumF st := by
  induction st with
  | nil => cases h
  | cons g r ih =>
    have e : sumF (g :: r) = szF g + sumF r := by simp [sumF]
    rcases List.mem_cons.mp h with z | z
    · rw [z, e]; omega
    · have := ih z; omega
end SWM


namespace SWM
theorem frs_last {T : List Stp} {f : Frm} (h : runF T [] = some [f]) : (frs T []).getLast? = some f := by
  have hne : T ≠ [] := by rintro rfl; simp [runF] at h
  obtain ⟨a, s, rfl⟩ : ∃ a s, T = a ++ [s] := ⟨T.dropLast, T.getLast hne, (List.dropLast_concat_getLast hne).symm⟩
  rw [runF_app] at h
  cases q : runF a [] with
  | none => rw [q] at h; cases h
  | some st =>
    rw [q] at h
    have h2 : runF [s] st = some [f] := h
    rw [runF_one] at h2
    rw [frs_app _ _ _ _ q]
    have e : frs [s] st = [f] := by
      show (match stepF s st with | some st1 => st1.getLastD ([], []) :: frs [] st1 | none => []) = _
      rw [h2]; rfl
    rw [e]; simp
def stkO : List Stp → List Nat → Nat → List Nat
  | [], st, _ => st
  | s :: r, st, i => stkO r (st.take (st.length - ar s) ++ [i]) (i + 1)
theorem stkO_snoc (a : List Stp) (s : Stp) : ∀ (st : List Nat) (i : Nat), stkO (a ++ [s]) st i = (stkO a st i).take ((stkO a st i).length - ar s) ++ [i + a.length] := by
  induction a with
  | nil => intro st i; rfl
  | cons x r ih =>
    intro st i
    show stkO (r ++ [s]) _ (i + 1) = (stkO r _ (i + 1)).take ((stkO r _ (i + 1)).length - ar s) ++ _
    rw [ih]
    have e : i + 1 + r.length = i + (x :: r).length := by simp; omega
    rw [e]
theorem ops_snoc (a : List Stp) (s : Stp) : ∀ (st : List Nat) (i : Nat), ops (a ++ [s]) st i = ops a st i ++ [(stkO a st i).drop ((stkO a st i).length - ar s)] := by
  induction a with
  | nil => intro st i; rfl
  | cons x r ih =>
    intro st i
    show _ :: ops (r ++ [s]) _ (i + 1) = _ :: (ops r _ (i + 1) ++ _)
    rw [ih]; rfl
theorem stkO_len : ∀ (a : List Stp) {st st' : List Frm} (so : List Nat) (i : Nat), runF a st = some st' → so.length = st.length → (stkO a so i).length = st'.length
  | [], st, st', so, i, h, e => by
    have e2 : st = st' := Option.some.inj h
    rw [← e2]; exact e
  | s :: r, st, st', so, i, h, e => by
    have h' : (match stepF s st with | some st1 => runF r st1 | none => none) = some st' := h
    cases q : stepF s st with
    | none => rw [q] at h'; cases h'
    | some st1 =>
      rw [q] at h'
      obtain ⟨h1, f, h2, h3⟩ := step_inv q
      refine stkO_len r _ _ h' ?_
      rw [h3, List.length_append, List.length_append, List.length_take, List.length_take, e]; rfl
theorem ops_len : ∀ (a : List Stp) (st : List Nat) (i : Nat), (ops a st i).length = a.length
  | [], _, _ => rfl
  | s :: r, st, i => congrArg (· + 1) (ops_len r _ _)
theorem stkO_lt : ∀ (a : List Stp) (st : List Nat) (i : Nat), (∀ x ∈ st, x < i) → ∀ x ∈ stkO a st i, x < i + a.length
  | [], st, i, h, x, hx => by have := h x hx; simp; exact this
  | s :: r, st, i, h, x, hx => by
    have := stkO_lt r _ (i + 1) (fun y hy => by
      rcases List.mem_append.mp hy with z | z
      · have := h y (List.mem_of_mem_take z); omega
      · have : y = i := by simpa using z
        omega) x hx
    simp only [List.length_cons]; omega
/-- an operand stands ahead of its step -/
theorem ops_lt : ∀ (a : List Stp) (st : List Nat) (i : Nat), (∀ x ∈ st, x < i) → ∀ (j : Nat) (l : List Nat), (ops a st i)[j]? = some l → ∀ x ∈ l, x < i + j
  | [], st, i, h, j, l, e, x, hx => by simp [ops] at e
  | s :: r, st, i, h, 0, l, e, x, hx => by
    have e' : st.drop (st.length - ar s) = l := by simpa [ops] using e
    rw [← e'] at hx
    exact h x (List.mem_of_mem_drop hx)
  | s :: r, st, i, h, j + 1, l, e, x, hx => by
    have e' : (ops r (st.take (st.length - ar s) ++ [i]) (i + 1))[j]? = some l := by simpa [ops] using e
    have := ops_lt r _ (i + 1) (fun y hy => by
      rcases List.mem_append.mp hy with z | z
      · have := h y (List.mem_of_mem_take z); omega
      · have : y = i := by simpa using z
        omega) j l e' x hx
    omega
end SWM


/-! The building, step by step: what each step finds. -/
namespace SWM
def Cor (g : Gr) (f : Frm) : Prop := (g.1.map (·.1)).Nodup ∧ ∀ x, x ∈ g.1.map (·.1) ↔ x ∈ f.1
inductive Cors : List Gr → List Frm → Prop
  | nil : Cors [] []
  | cons {g f gs fs} : Cor g f → Cors gs fs → Cors (g :: gs) (f :: fs)
theorem Cors.len : ∀ {gs fs}, Cors gs fs → gs.length = fs.length
  | _, _, .nil => rfl
  | _, _, .cons _ h => congrArg (· + 1) h.len
theorem Cors.app : ∀ {gs fs hs ks}, Cors gs fs → Cors hs ks → Cors (gs ++ hs) (fs ++ ks)
  | _, _, _, _, .nil, h => h
  | _, _, _, _, .cons a b, h => .cons a (b.app h)
theorem Cors.split : ∀ {gs : List Gr} {fs gs2 : List Frm}, Cors gs (fs ++ gs2) → ∃ a b, gs = a ++ b ∧ Cors a fs ∧ Cors b gs2
  | gs, [], _, h => ⟨[], gs, rfl, .nil, h⟩
  | _, f :: fs, _, h => by
    cases h with
    | cons h1 h2 =>
      obtain ⟨a, b, rfl, h3, h4⟩ := h2.split
      exact ⟨_ :: a, b, rfl, .cons h1 h3, h4⟩
def szG (g : Gr) : Nat := g.1.length + g.2.length
def sumG (st : List Gr) : Nat := (st.map szG).sum
theorem sumG_app (a b : List Gr) : sumG (a ++ b) = sumG a + sumG b := by simp [sumG]
theorem sumG_one (g : Gr) : sumG [g] = szG g := by simp [sumG]
theorem put_len' (m : List (Nat × Nat)) (i v : Nat) : (put m i v).length ≤ m.length + 1 := by
  induction m with
  | nil => simp [put]
  | cons p r ih =>
    unfold put
    split
    · simp
    · simp only [List.length_cons]; omega
theorem joinB_len (lo : List (Nat × Nat)) : ∀ (up bec : List (Nat × Nat)), (joinB bec lo up).length ≤ bec.length + up.length
  | [], bec => Nat.le_refl _
  | p :: r, bec => by
    have h1 := joinB_len lo r (put bec p.2 (lkD lo p.1))
    have h2 := put_len' bec p.2 (lkD lo p.1)
    show (joinB (put bec p.2 (lkD lo p.1)) lo r).length ≤ _
    simp only [List.length_cons]; omega
theorem mem_put {m : List (Nat × Nat)} {i v x : Nat} : x ∈ (put m i v).map (·.1) ↔ x ∈ m.map (·.1) ∨ x = i := by
  induction m with
  | nil => simp [put]
  | cons p r ih =>
    unfold put
    split
    · rename_i e
      simp only [List.map_cons, List.mem_cons]
      rw [e]
      constructor
      · rintro (z | z)
        · exact .inl (.inl z)
        · exact .inl (.inr z)
      · rintro ((z | z) | z)
        · exact .inl z
        · exact .inr z
        · exact .inl z
    · simp only [List.map_cons, List.mem_cons, ih]
      constructor
      · rintro (z | z | z)
        · exact .inl (.inl z)
        · exact .inl (.inr z)
        · exact .inr z
      · rintro ((z | z) | z)
        · exact .inl z
        · exact .inr (.inl z)
        · exact .inr (.inr z)
theorem put_nd {m : List (Nat × Nat)} (nd : (m.map (·.1)).Nodup) (i v : Nat) : ((put m i v).map (·.1)).Nodup := by
  induction m with
  | nil => simp [put]
  | cons p r ih =>
    rw [List.map_cons] at nd
    obtain ⟨n1, n2⟩ := List.nodup_cons.mp nd
    unfold put
    split
    · rename_i e
      rw [List.map_cons]
      exact List.nodup_cons.mpr ⟨by show ¬ i ∈ _; rw [← e]; exact n1, n2⟩
    · rename_i e
      rw [List.map_cons]
      refine List.nodup_cons.mpr ⟨fun z => ?_, ih n2⟩
      rcases mem_put.mp z with z | z
      · exact n1 z
      · exact e z
theorem joinB_nd (lo : List (Nat × Nat)) : ∀ (up bec : List (Nat × Nat)), (bec.map (·.1)).Nodup → ((joinB bec lo up).map (·.1)).Nodup
  | [], bec, h => h
  | p :: r, bec, h => joinB_nd lo r _ (put_nd h p.2 _)
theorem del_nd {m : List (Nat × Nat)} (nd : (m.map (·.1)).Nodup) (i : Nat) : ((del m i).map (·.1)).Nodup := nd.sublist ((del_sub m i).map _)
/-- what stands behind i steps -/
structure BInv (i : Nat) (b : Bd) (st : List Frm) : Prop where
  cor : Cors b.stk st
  sz : b.bec.length + sumG b.stk ≤ 2 * i
  eds : b.eds.length ≤ i
  shw : b.shw.length = i
  tok : b.tok ≤ i
  nd : (b.bec.map (·.1)).Nodup
/-- what a step finds -/
inductive Finds (b : Bd) : Stp → Prop
  | empty : Finds b .empty
  | new (i : Nat) (S : List Gr) (g : Gr) : b.stk = S ++ [g] → (g.1.map (·.1)).Nodup → Finds b (.new i)
  | forget (i : Nat) (S : List Gr) (g : Gr) : b.stk = S ++ [g] → (g.1.map (·.1)).Nodup → i ∈ g.1.map (·.1) → Finds b (.forget i)
  | edge (i j : Nat) (S : List Gr) (g : Gr) : b.stk = S ++ [g] → (g.1.map (·.1)).Nodup → i ∈ g.1.map (·.1) → j ∈ g.1.map (·.1) → Finds b (.edge i j)
  | join (S : List Gr) (lo up : Gr) : b.stk = S ++ [lo, up] → (up.1.map (·.1)).Nodup → (lo.1.map (·.1)).Nodup → (∀ x ∈ up.1.map (·.1), x ∈ lo.1.map (·.1)) → Finds b .join
theorem BInv.start : BInv 0 Bd.start [] := ⟨.nil, by simp [Bd.start, sumG], Nat.le_refl _, rfl, Nat.le_refl _, by simp [Bd.start]⟩
theorem list_two {α : Type} {l : List α} (h : 2 ≤ l.length) : ∃ s a b, l = s ++ [a, b] := by
  obtain ⟨x, hx⟩ : ∃ x, x = l.drop (l.length - 2) := ⟨_, rfl⟩
  have hl : x.length = 2 := by rw [hx, List.length_drop]; omega
  match x, hl with
  | [a, b], _ => exact ⟨l.take (l.length - 2), a, b, by rw [hx, List.take_append_drop]⟩
theorem list_one {α : Type} {l : List α} (h : 1 ≤ l.length) : ∃ s a, l = s ++ [a] := by
  have hne : l ≠ [] := by intro e; rw [e] at h; simp at h
  exact ⟨l.dropLast, l.getLast hne, (List.dropLast_concat_getLast hne).symm⟩
theorem Cors.last {gs : List Gr} {fs : List Frm} {f : Frm} (h : Cors gs (fs ++ [f])) : ∃ S g, gs = S ++ [g] ∧ Cors S fs ∧ Cor g f := by
  obtain ⟨a, b, rfl, h1, h2⟩ := h.split
  cases h2 with
  | cons q1 q2 => cases q2; exact ⟨a, _, rfl, h1, q1⟩
theorem Cors.last2 {gs : List Gr} {fs : List Frm} {f f' : Frm} (h : Cors gs (fs ++ [f, f'])) : ∃ S g g', gs = S ++ [g, g'] ∧ Cors S fs ∧ Cor g f ∧ Cor g' f' := by
  obtain ⟨a, b, rfl, h1, h2⟩ := h.split
  cases h2 with
  | cons q1 q2 =>
    cases q2 with
    | cons q2 q3 => cases q3; exact ⟨a, _, _, rfl, h1, q1, q2⟩
theorem top_of {b : Bd} {S : List Gr} {g : Gr} (h : b.stk = S ++ [g]) : topG b = g ∧ b.stk.dropLast = S := by
  unfold topG
  rw [h, List.getLastD_concat, List.dropLast_concat]
  exact ⟨rfl, rfl⟩
theorem two_of {b : Bd} {S : List Gr} {lo up : Gr} (h : b.stk = S ++ [lo, up]) : topG b = up ∧ sndG b = lo ∧ b.stk.dropLast.dropLast = S := by
  have e : b.stk = (S ++ [lo]) ++ [up] := by rw [h]; simp
  obtain ⟨h1, h2⟩ := top_of e
  refine ⟨h1, ?_, ?_⟩
  · unfold sndG; rw [h2, List.getLastD_concat]
  · rw [h2, List.dropLast_concat]
theorem restO_len (src : List (Nat × Nat)) (o : List Nat) : (restO src o).length ≤ o.length := List.length_filter_le _ _
theorem binv_step {i : Nat} {b : Bd} {st st' : List Frm} {s : Stp} (h : BInv i b st) (hs : stepF s st = some st') : Finds b s ∧ BInv (i + 1) (takeB b s) st' := by
  obtain ⟨hl, f, hf, rfl⟩ := step_inv hs
  have hsz := h.sz
  cases s with
  | empty =>
    have e : f = ([], []) := (Option.some.inj hf).symm
    refine ⟨.empty, ?_, ?_, by have := h.eds; show b.eds.length ≤ i + 1; omega, by show (b.shw ++ [[]]).length = _; rw [List.length_append, h.shw]; rfl, by have := h.tok; show b.tok ≤ i + 1; omega, h.nd⟩
    · rw [e, show st.length - ar .empty = st.length from rfl, List.take_length]
      exact h.cor.app (.cons ⟨by simp, by simp⟩ .nil)
    · show b.bec.length + sumG (b.stk ++ [([], [])]) ≤ _
      rw [sumG_app, sumG_one]
      simp only [szG, List.length_nil]; omega
  | join =>
    obtain ⟨fs, f1, f2, rfl⟩ := list_two (l := st) (by simp only [ar] at hl; omega)
    obtain ⟨S, lo, up, hS, c1, c2, c3⟩ := h.cor.last2
    have e1 : (fs ++ [f1, f2]).length - ar .join = fs.length := by simp [ar]
    rw [e1, List.drop_left] at hf
    have hf' : (if f2.1 = f1.1 ∧ ∀ q ∈ f2.2, ¬ q ∈ f1.2 then some (f1.1, srtP (f1.2 ++ f2.2)) else none) = some f := hf
    split at hf'
    · rename_i hc
      have e := Option.some.inj hf'
      obtain ⟨t1, t2, t3⟩ := two_of hS
      refine ⟨.join S lo up hS c3.1 c2.1 fun x hx => (c2.2 x).mpr (by rw [← hc.1]; exact (c3.2 x).mp hx), ?_, ?_, by have := h.eds; show b.eds.length ≤ i + 1; omega, by show (b.shw ++ [_]).length = _; rw [List.length_append, h.shw]; rfl, by have := h.tok; show b.tok ≤ i + 1; omega, joinB_nd _ _ _ h.nd⟩
      · rw [e1, List.take_left]
        show Cors (b.stk.dropLast.dropLast ++ [joinG (sndG b) (topG b)]) _
        rw [t1, t2, t3, ← e]
        exact c1.app (.cons ⟨c2.1, c2.2⟩ .nil)
      · show (joinB b.bec (sndG b).1 (topG b).1).length + sumG (b.stk.dropLast.dropLast ++ [joinG (sndG b) (topG b)]) ≤ _
        rw [t1, t2, t3, sumG_app, sumG_one]
        have q1 := joinB_len lo.1 up.1 b.bec
        have q2 := restO_len up.1 up.2
        rw [hS, sumG_app] at hsz
        have q3 : sumG [lo, up] = szG lo + szG up := by simp [sumG]
        have q4 : szG (joinG lo up) = lo.1.length + (lo.2.length + (restO up.1 up.2).length) := by simp [szG, joinG]
        simp only [szG] at q3
        omega
    · cases hf'
  | new l =>
    obtain ⟨fs, f1, rfl⟩ := list_one (l := st) (by simp only [ar] at hl; omega)
    obtain ⟨S, g, hS, c1, c2⟩ := h.cor.last
    have e1 : (fs ++ [f1]).length - ar (.new l) = fs.length := by simp [ar]
    rw [e1, List.drop_left] at hf
    have hf' : (if l ∈ f1.1 then none else some (srtN (f1.1 ++ [l]), f1.2)) = some f := hf
    split at hf'
    · cases hf'
    · rename_i hc
      have e := Option.some.inj hf'
      obtain ⟨t1, t2⟩ := top_of hS
      refine ⟨.new l S g hS c2.1, ?_, ?_, by have := h.eds; show b.eds.length ≤ i + 1; omega, by show (b.shw ++ [_]).length = _; rw [List.length_append, h.shw]; rfl, by have := h.tok; show b.tok + 1 ≤ i + 1; omega, h.nd⟩
      · rw [e1, List.take_left]
        show Cors (b.stk.dropLast ++ [(put (topG b).1 l b.tok, (topG b).2 ++ [b.tok])]) _
        rw [t1, t2, ← e]
        refine c1.app (.cons ⟨put_nd c2.1 _ _, fun x => ?_⟩ .nil)
        show x ∈ (put g.1 l b.tok).map (·.1) ↔ x ∈ srtN (f1.1 ++ [l])
        rw [mem_put, mem_srtN, c2.2 x]; simp
      · show b.bec.length + sumG (b.stk.dropLast ++ [(put (topG b).1 l b.tok, (topG b).2 ++ [b.tok])]) ≤ _
        rw [t1, t2, sumG_app, sumG_one]
        have q1 := put_len' g.1 l b.tok
        rw [hS, sumG_app, sumG_one] at hsz
        simp only [szG, List.length_append, List.length_singleton] at hsz ⊢
        omega
  | forget l =>
    obtain ⟨fs, f1, rfl⟩ := list_one (l := st) (by simp only [ar] at hl; omega)
    obtain ⟨S, g, hS, c1, c2⟩ := h.cor.last
    have e1 : (fs ++ [f1]).length - ar (.forget l) = fs.length := by simp [ar]
    rw [e1, List.drop_left] at hf
    have hf' : (if l ∈ f1.1 then some (f1.1.filter (fun x => decide (x ≠ l)), f1.2.filter fun q => decide (¬ (l = q.1 ∨ l = q.2))) else none) = some f := hf
    split at hf'
    · rename_i hc
      have e := Option.some.inj hf'
      obtain ⟨t1, t2⟩ := top_of hS
      refine ⟨.forget l S g hS c2.1 ((c2.2 l).mpr hc), ?_, ?_, by have := h.eds; show b.eds.length ≤ i + 1; omega, by show (b.shw ++ [_]).length = _; rw [List.length_append, h.shw]; rfl, by have := h.tok; show b.tok ≤ i + 1; omega, h.nd⟩
      · rw [e1, List.take_left]
        show Cors (b.stk.dropLast ++ [(del (topG b).1 l, (topG b).2)]) _
        rw [t1, t2, ← e]
        refine c1.app (.cons ⟨del_nd c2.1 _, fun x => ?_⟩ .nil)
        show x ∈ (del g.1 l).map (·.1) ↔ x ∈ f1.1.filter (fun x => decide (x ≠ l))
        rw [List.mem_filter, ← c2.2 x]
        constructor
        · intro hx
          obtain ⟨p, hp, rfl⟩ := List.mem_map.mp hx
          obtain ⟨h1, h2⟩ := mem_del.mp hp
          exact ⟨List.mem_map_of_mem h1, decide_eq_true h2⟩
        · rintro ⟨hx, hn⟩
          obtain ⟨p, hp, rfl⟩ := List.mem_map.mp hx
          exact List.mem_map.mpr ⟨p, mem_del.mpr ⟨hp, of_decide_eq_true hn⟩, rfl⟩
      · show b.bec.length + sumG (b.stk.dropLast ++ [(del (topG b).1 l, (topG b).2)]) ≤ _
        rw [t1, t2, sumG_app, sumG_one]
        have q1 := (del_sub g.1 l).length_le
        rw [hS, sumG_app, sumG_one] at hsz
        simp only [szG] at hsz ⊢
        omega
    · cases hf'
  | edge a c =>
    obtain ⟨fs, f1, rfl⟩ := list_one (l := st) (by simp only [ar] at hl; omega)
    obtain ⟨S, g, hS, c1, c2⟩ := h.cor.last
    have e1 : (fs ++ [f1]).length - ar (.edge a c) = fs.length := by simp [ar]
    rw [e1, List.drop_left] at hf
    have hf' : (if a < c ∧ a ∈ f1.1 ∧ c ∈ f1.1 ∧ ¬ (a, c) ∈ f1.2 then some (f1.1, srtP (f1.2 ++ [(a, c)])) else none) = some f := hf
    split at hf'
    · rename_i hc
      have e := Option.some.inj hf'
      obtain ⟨t1, t2⟩ := top_of hS
      refine ⟨.edge a c S g hS c2.1 ((c2.2 a).mpr hc.2.1) ((c2.2 c).mpr hc.2.2.1), ?_, ?_, by have := h.eds; show (b.eds ++ [_]).length ≤ i + 1; rw [List.length_append]; simp; omega, by show (b.shw ++ [_]).length = _; rw [List.length_append, h.shw]; rfl, by have := h.tok; show b.tok ≤ i + 1; omega, h.nd⟩
      · rw [e1, List.take_left]
        show Cors (b.stk.dropLast ++ [topG b]) _
        rw [t1, t2, ← e]
        exact c1.app (.cons ⟨c2.1, c2.2⟩ .nil)
      · show b.bec.length + sumG (b.stk.dropLast ++ [topG b]) ≤ _
        rw [t1, t2, sumG_app, sumG_one]
        rw [hS, sumG_app, sumG_one] at hsz
        omega
    · cases hf'
end SWM


/-! The law's own terms, step by step: the stack is the run of the steps. -/
namespace SWM
def Run (st : LS) : Prop := runF st.1 [] = some st.2
theorem run_putS {st : LS} (h : Run st) (s : Stp) : Run (putS st s) := by
  unfold putS
  cases e : stepF s st.2 with
  | none => exact h
  | some fs =>
    show runF (st.1 ++ [s]) [] = some fs
    unfold Run at h
    rw [runF_app, h, Option.bind_some, runF_one, e]
theorem run_pj1 {st : LS} (h : Run st) (q : Nat × Nat) : Run (pj1 st q) := by
  unfold pj1
  split
  · exact run_putS h _
  · exact h
theorem run_pj1s : ∀ (l : List (Nat × Nat)) {st : LS}, Run st → Run (l.foldl pj1 st)
  | [], _, h => h
  | q :: l, _, h => run_pj1s l (run_pj1 h q)
theorem run_pj2 {low : Frm} {st : LS} (h : Run st) (l : Nat) : Run (pj2 low st l) := by
  have a : Run (if l ∈ (topF st).1 ∧ ¬ l ∈ low.1 then putS st (.forget l) else st) := by
    split
    · exact run_putS h _
    · exact h
  unfold pj2
  dsimp only
  split
  · exact run_putS a _
  · exact a
theorem run_pj2s {low : Frm} : ∀ (l : List Nat) {st : LS}, Run st → Run (l.foldl (pj2 low) st)
  | [], _, h => h
  | q :: l, _, h => run_pj2s l (run_pj2 h q)
theorem run_putJ {k : Nat} {st : LS} (h : Run st) : Run (putJ k st) := run_putS (run_pj2s _ (run_pj1s _ h)) _
theorem run_putD {k : Nat} {st : LS} (h : Run st) (d : Nat) : Run (putD k st d) := by
  unfold putD
  split
  · exact run_putS h _
  split
  · exact run_putS h _
  split
  · exact run_putS h _
  split
  · exact run_putS h _
  split
  · exact run_putJ h
  · exact h
theorem run_drawn {k : Nat} : ∀ (l : List Nat) {st : LS}, Run st → Run (l.foldl (putD k) st)
  | [], _, h => h
  | d :: l, _, h => run_drawn l (run_putD h d)
theorem run_finJ {k : Nat} {st : LS} (h : Run st) : Run (finJ k st) := by
  unfold finJ
  split
  · exact run_putJ h
  · exact h
/-- what the walk of a law's term needs of each state -/
structure LOk (st : LS) : Prop where
  run : Run st
  len : st.1.length ≤ 1200
  lo : 1 ≤ st.2.length
theorem LOk.sz {st : LS} (h : LOk st) : st.2.length ≤ 1200 ∧ sumF st.2 ≤ 1200 := by
  have := run_sz _ h.run
  have e : sumF [] = 0 := rfl
  have := h.len
  simp only [List.length_nil] at *
  omega
theorem lowF_le {st : LS} (h : LOk st) (h2 : 2 ≤ st.2.length) : (lowF st).2.length ≤ 1200 := by
  obtain ⟨S, lo, up, e⟩ := list_two h2
  have el : lowF st = lo := by
    unfold lowF
    rw [e, show S ++ [lo, up] = (S ++ [lo]) ++ [up] by simp, List.dropLast_concat, List.getLastD_concat]
  have hm : lo ∈ st.2 := by rw [e]; simp
  have h3 := sz_mem hm
  have h4 := h.sz.2
  unfold szF at h3
  rw [el]; omega
theorem l0 (k : Nat) : LInv k 0 ([.empty], [([], [])]) [.empty] := ⟨⟨rfl, rfl, fun s hs => by simp at hs; subst hs; trivial⟩, by decide, by decide, by simp, by simp, by simp⟩
theorem drawn_len (ds : List Nat) : (drawnOf ds).length ≤ 28 := by
  unfold drawnOf
  rw [List.length_take]
  have := Nat.mod_lt (ds.headD 0) (show 0 < 28 by decide)
  omega
/-- behind i draws -/
theorem lok_draw {k : Nat} (hk : k ≤ 4) (ds : List Nat) (i : Nat) : LOk (((drawnOf ds).take i).foldl (putD k) ([.empty], [([], [])])) := by
  have hl : ((drawnOf ds).take i).length ≤ 28 := Nat.le_trans (List.length_take_le' _ _) (drawn_len ds)
  obtain ⟨ts, a⟩ := linv_drawn hk ((drawnOf ds).take i) (l0 k) (by omega)
  have a := linv_more a (show 0 + ((drawnOf ds).take i).length ≤ 28 by omega)
  exact ⟨run_drawn _ rfl, by have := a.len; omega, a.lo⟩
def finN (k : Nat) (st : LS) : Nat → LS
  | 0 => st
  | n + 1 => finJ k (finN k st n)
/-- behind n joins of the end -/
theorem lok_fin {k : Nat} (hk : k ≤ 4) (ds : List Nat) : ∀ n, n ≤ 3 → ∃ ts, EInv k (1 + 28 * (28 + 2 * (k + 1)) + n * (28 + 2 * (k + 1))) (finN k ((drawnOf ds).foldl (putD k) ([.empty], [([], [])])) n) ts
  | 0, _ => by
    obtain ⟨ts1, a⟩ := linv_drawn hk (drawnOf ds) (l0 k) (by have := drawn_len ds; omega)
    have a := linv_more a (show 0 + (drawnOf ds).length ≤ 28 by have := drawn_len ds; omega)
    exact ⟨ts1, ⟨a.sti, a.vc, a.ne, by have := a.len; show ((drawnOf ds).foldl (putD k) ([.empty], [([], [])])).1.length ≤ _; omega, a.lo⟩⟩
  | n + 1, h => by
    obtain ⟨ts, a⟩ := lok_fin hk ds n (by omega)
    obtain ⟨ts2, b, _⟩ := einv_fin hk a
    refine ⟨ts2, ?_⟩
    have e : 1 + 28 * (28 + 2 * (k + 1)) + (n + 1) * (28 + 2 * (k + 1)) = 1 + 28 * (28 + 2 * (k + 1)) + n * (28 + 2 * (k + 1)) + (28 + 2 * (k + 1)) := by rw [Nat.succ_mul n]; omega
    rw [e]; exact b
theorem run_finN {k : Nat} {st : LS} (h : Run st) : ∀ n, Run (finN k st n)
  | 0 => h
  | n + 1 => run_finJ (run_finN h n)
theorem lok_finN {k : Nat} (hk : k ≤ 4) (ds : List Nat) (n : Nat) (hn : n ≤ 3) : LOk (finN k ((drawnOf ds).foldl (putD k) ([.empty], [([], [])])) n) := by
  obtain ⟨ts, a⟩ := lok_fin hk ds n hn
  have h1 := a.len
  have h2 : n * (28 + 2 * (k + 1)) ≤ 3 * 38 := Nat.mul_le_mul hn (by omega)
  exact ⟨run_finN (run_drawn _ (show Run ([.empty], [([], [])]) from rfl)) n, by omega, a.lo⟩
end SWM


/-! How long the rows are. -/
namespace SWM
theorem fromC_le (L : Nat → Nat) (bag below : List Nat) (x : SO) (h : x.2.length ≤ x.1.length) : x.1.length ≤ (fromC L bag below x).1.length ∧ (fromC L bag below x).2.length ≤ (fromC L bag below x).1.length := by
  simp only [fromC, List.length_append, List.length_map]
  omega
theorem addC_le2 (bag : List Nat) (x y : SO) (h : x.2.length ≤ x.1.length) (g : y.2.length ≤ y.1.length) : x.1.length ≤ (addC bag x y).1.length ∧ y.1.length ≤ (addC bag x y).1.length ∧ (addC bag x y).2.length ≤ (addC bag x y).1.length := by
  have := List.length_filter_le (fun v => decide (¬ v ∈ bag)) y.2
  simp only [addC, List.length_append, List.length_singleton]
  omega
theorem fold_le (L : Nat → Nat) (bag : List Nat) : ∀ (r : List (List Nat × SO)) (x : SO), x.2.length ≤ x.1.length → (∀ d ∈ r, d.2.2.length ≤ d.2.1.length) →
    (r.foldl (fun x d => addC bag x (fromC L bag d.1 d.2)) x).2.length ≤ (r.foldl (fun x d => addC bag x (fromC L bag d.1 d.2)) x).1.length ∧ x.1.length ≤ (r.foldl (fun x d => addC bag x (fromC L bag d.1 d.2)) x).1.length ∧ ∀ d ∈ r, d.2.1.length ≤ (r.foldl (fun x d => addC bag x (fromC L bag d.1 d.2)) x).1.length
  | [], x, h, _ => ⟨h, Nat.le_refl _, by simp⟩
  | d :: r, x, h, g => by
    have gd := g d (by simp)
    have f := fromC_le L bag d.1 d.2 gd
    have a := addC_le2 bag x (fromC L bag d.1 d.2) h f.2
    have ih := fold_le L bag r (addC bag x (fromC L bag d.1 d.2)) a.2.2 fun d' hd' => g d' (by simp [hd'])
    rw [List.foldl_cons]
    refine ⟨ih.1, Nat.le_trans a.1 ih.2.1, fun d' hd' => ?_⟩
    rcases List.mem_cons.mp hd' with z | z
    · rw [z]
      exact Nat.le_trans f.1 (Nat.le_trans a.2.1 ih.2.1)
    · exact ih.2.2 d' z
theorem childSO_le (L : Nat → Nat) (bag : List Nat) (cs : List (List Nat × SO)) (g : ∀ d ∈ cs, d.2.2.length ≤ d.2.1.length) : (childSO L bag cs).2.length ≤ (childSO L bag cs).1.length ∧ ∀ d ∈ cs, d.2.1.length ≤ (childSO L bag cs).1.length := by
  cases cs with
  | nil =>
    refine ⟨?_, by simp⟩
    show (byL L bag).length ≤ (Stp.empty :: (byL L bag).map _).length
    simp
  | cons c r =>
    have f := fromC_le L bag c.1 c.2 (g c (by simp))
    have ih := fold_le L bag r (fromC L bag c.1 c.2) f.2 fun d hd => g d (by simp [hd])
    refine ⟨ih.1, fun d hd => ?_⟩
    rcases List.mem_cons.mp hd with z | z
    · rw [z]
      exact Nat.le_trans f.1 ih.2.1
    · exact ih.2.2 d z
theorem doSO_le (L : Nat → Nat) (bag : List Nat) (row : List (Nat × Nat)) (cs : List (List Nat × SO)) (g : ∀ d ∈ cs, d.2.2.length ≤ d.2.1.length) : (doSO L bag row cs).2.length ≤ (doSO L bag row cs).1.length ∧ ∀ d ∈ cs, d.2.1.length ≤ (doSO L bag row cs).1.length := by
  have h := childSO_le L bag cs g
  have e : (doSO L bag row cs).1.length = (childSO L bag cs).1.length + (edgSteps row).length := by simp [doSO]
  rw [e]
  refine ⟨?_, fun d hd => ?_⟩
  · show (childSO L bag cs).2.length ≤ _
    omega
  · have := h.2 d hd
    omega
section
variable {L : Nat → Nat} {B : List (List Nat)} {P : List Int} {N : Nat} {row : Nat → List (Nat × Nat)} {R : Nat → SO}
theorem R_two (hpar : ∀ i, 0 < i → i < N → parOf P i < i) (eq : ∀ i, i < N → R i = doSO L (bagAt B i) (row i) ((kids P N i).map fun c => (bagAt B c, R c))) : ∀ d i, N - i ≤ d → i < N → (R i).2.length ≤ (R i).1.length ∧ ∀ c ∈ kids P N i, (R c).1.length ≤ (R i).1.length
  | 0, i, h, hi => by omega
  | d + 1, i, h, hi => by
    have ih := R_two hpar eq d
    rw [eq i hi]
    have q := doSO_le L (bagAt B i) (row i) ((kids P N i).map fun c => (bagAt B c, R c)) fun e he => by
      obtain ⟨c, hc, rfl⟩ := List.mem_map.mp he
      obtain ⟨h1, h2, h3⟩ := mem_kids.mp hc
      have := hpar c h2 h1
      exact (ih c (by omega) h1).1
    exact ⟨q.1, fun c hc => q.2 (bagAt B c, R c) (List.mem_map.mpr ⟨c, hc, rfl⟩)⟩
theorem R_le (hpar : ∀ i, 0 < i → i < N → parOf P i < i) (eq : ∀ i, i < N → R i = doSO L (bagAt B i) (row i) ((kids P N i).map fun c => (bagAt B c, R c))) : ∀ d i, i ≤ d → i < N → (R i).1.length ≤ (R 0).1.length
  | 0, i, h, hi => by
    have : i = 0 := by omega
    rw [this]; exact Nat.le_refl _
  | d + 1, i, h, hi => by
    by_cases z : i = 0
    · rw [z]; exact Nat.le_refl _
    · have h1 := hpar i (by omega) hi
      have h2 := (R_two hpar eq N (parOf P i) (by omega) (by omega)).2 i (mem_kids.mpr ⟨hi, by omega, rfl⟩)
      exact Nat.le_trans h2 (R_le hpar eq d (parOf P i) (by omega) (by omega))
theorem R_all (hpar : ∀ i, 0 < i → i < N → parOf P i < i) (eq : ∀ i, i < N → R i = doSO L (bagAt B i) (row i) ((kids P N i).map fun c => (bagAt B c, R c))) (i : Nat) (hi : i < N) : (R i).1.length ≤ (R 0).1.length ∧ (R i).2.length ≤ (R 0).1.length := by
  have h1 := R_le hpar eq i i (Nat.le_refl _) hi
  exact ⟨h1, Nat.le_trans (R_two hpar eq N i (by omega) hi).1 h1⟩
end
theorem dec_par {n : Nat} {es : List (Nat × Nat)} {B : List (List Nat)} {P : List Int} (D : Dec n es B P) : ∀ i, 0 < i → i < B.length → parOf P i < i := fun i h1 h2 => by
  obtain ⟨j, hj1, hj2⟩ := D.par i h1 h2
  have e : parOf P i = j := by
    unfold parOf
    rw [List.getD_eq_getElem?_getD, hj1]; simp
  omega
end SWM


set_option maxRecDepth 100000
set_option maxHeartbeats 4000000
/-! The text by places: each def's statement, its names by slot, its scope. Printed by gen_text.py. -/
namespace SW
open PySem L2
def top (i : Nat) : Stmt := PySem.Challenge.pw_smallwidth_k16_whole_terms_and_bags.main.body.getD i (.Pass ⟨0, 0, 0, 0⟩)
abbrev FnP (K : PySem.W.Frag) (x qual : Str) (st : Stmt) (f : Addr) (fd : FuncData) : Prop := FunD K x qual (defArgs st) (defBody st) (defScope st) [] [] f fd
abbrev s_is_integer : Stmt := top 9
theorem sc_is_integer : FnScope ["value", "least", "most"] ["value", "least", "most"] (defScope s_is_integer) := ⟨rfl, rfl, rfl, by decide +kernel, rfl, by decide +kernel, by decide +kernel⟩
abbrev s_Graph___init__ : Stmt := inClass (top 10) 0
theorem sc_Graph___init__ : FnScope ["self", "size", "edges", "seen", "edge", "u", "v", "_", "row"] ["self", "size", "edges"] (defScope s_Graph___init__) := ⟨rfl, rfl, rfl, by decide +kernel, rfl, by decide +kernel, by decide +kernel⟩
abbrev s__is_edge : Stmt := top 11
theorem sc__is_edge : FnScope ["edge", "size"] ["edge", "size"] (defScope s__is_edge) := ⟨rfl, rfl, rfl, by decide +kernel, rfl, by decide +kernel, by decide +kernel⟩
abbrev s_same : Stmt := top 12
theorem sc_same : FnScope ["first", "second"] ["first", "second"] (defScope s_same) := ⟨rfl, rfl, rfl, by decide +kernel, rfl, by decide +kernel, by decide +kernel⟩
abbrev s_is_step : Stmt := top 18
theorem sc_is_step : FnScope ["step", "k", "label"] ["step", "k"] (defScope s_is_step) := ⟨rfl, rfl, rfl, by decide +kernel, rfl, by decide +kernel, by decide +kernel⟩
abbrev s_next_frame : Stmt := top 19
theorem sc_next_frame : FnScope ["step", "frames", "labels", "pairs", "i", "pair"] ["step", "frames"] (defScope s_next_frame) := ⟨rfl, rfl, rfl, by decide +kernel, rfl, by decide +kernel, by decide +kernel⟩
abbrev s_frames_of : Stmt := top 20
theorem sc_frames_of : FnScope ["term", "k", "stack", "found", "index", "step", "begin", "frame"] ["term", "k"] (defScope s_frames_of) := ⟨rfl, rfl, rfl, by decide +kernel, rfl, by decide +kernel, by decide +kernel⟩
abbrev s_check_term : Stmt := top 21
theorem sc_check_term : FnScope ["term", "k"] ["term", "k"] (defScope s_check_term) := ⟨rfl, rfl, rfl, by decide +kernel, rfl, by decide +kernel, by decide +kernel⟩
abbrev s_most_labels : Stmt := top 22
theorem sc_most_labels : FnScope ["term", "k", "labels", "_"] ["term", "k"] (defScope s_most_labels) := ⟨rfl, rfl, rfl, by decide +kernel, rfl, by decide +kernel, by decide +kernel⟩
abbrev s_operands : Stmt := top 23
theorem sc_operands : FnScope ["term", "k", "stack", "found", "index", "step", "begin"] ["term", "k"] (defScope s_operands) := ⟨rfl, rfl, rfl, by decide +kernel, rfl, by decide +kernel, by decide +kernel⟩
abbrev s_Building___init__ : Stmt := inClass (top 24) 0
theorem sc_Building___init__ : FnScope ["self"] ["self"] (defScope s_Building___init__) := ⟨rfl, rfl, rfl, by decide +kernel, rfl, by decide +kernel, by decide +kernel⟩
abbrev s_Building_take : Stmt := inClass (top 24) 1
theorem sc_Building_take : FnScope ["self", "step", "upper", "sources", "label"] ["self", "step"] (defScope s_Building_take) := ⟨rfl, rfl, rfl, by decide +kernel, rfl, by decide +kernel, by decide +kernel⟩
abbrev s_Building__join : Stmt := inClass (top 24) 2
theorem sc_Building__join : FnScope ["self", "lower", "upper", "label", "marked", "token"] ["self", "lower", "upper"] (defScope s_Building__join) := ⟨rfl, rfl, rfl, by decide +kernel, rfl, by decide +kernel, by decide +kernel⟩
abbrev s_Building__changed : Stmt := inClass (top 24) 3
theorem sc_Building__changed : FnScope ["self", "step", "graph", "sources", "order"] ["self", "step", "graph"] (defScope s_Building__changed) := ⟨rfl, rfl, rfl, by decide +kernel, rfl, by decide +kernel, by decide +kernel⟩
abbrev s_Building_number : Stmt := inClass (top 24) 4
theorem sc_Building_number : FnScope ["self", "token"] ["self", "token"] (defScope s_Building_number) := ⟨rfl, rfl, rfl, by decide +kernel, rfl, by decide +kernel, by decide +kernel⟩
abbrev s_Building_finish : Stmt := inClass (top 24) 5
theorem sc_Building_finish : FnScope ["self", "k", "sources", "order", "edges", "marked", "index", "token", "u", "v", "label"] ["self", "k"] (defScope s_Building_finish) := ⟨rfl, rfl, rfl, by decide +kernel, rfl, by decide +kernel, by decide +kernel⟩
abbrev s_built : Stmt := top 25
theorem sc_built : FnScope ["term", "k", "building", "step", "size", "edges", "sources"] ["term", "k"] (defScope s_built) := ⟨rfl, rfl, rfl, by decide +kernel, rfl, by decide +kernel, by decide +kernel⟩
abbrev s_made : Stmt := top 26
theorem sc_made : FnScope ["term", "k", "_", "graph", "sources"] ["term", "k"] (defScope s_made) := ⟨rfl, rfl, rfl, by decide +kernel, rfl, by decide +kernel, by decide +kernel⟩
abbrev s__is_tuple_of_vertices : Stmt := top 28
theorem sc__is_tuple_of_vertices : FnScope ["value", "size", "vertex", "at"] ["value", "size"] (defScope s__is_tuple_of_vertices) := ⟨rfl, rfl, rfl, by decide +kernel, rfl, by decide +kernel, by decide +kernel⟩
abbrev s__has_form : Stmt := top 29
theorem sc__has_form : FnScope ["graph", "bags", "parents", "bag", "at"] ["graph", "bags", "parents"] (defScope s__has_form) := ⟨rfl, rfl, rfl, by decide +kernel, rfl, by decide +kernel, by decide +kernel⟩
abbrev s__tops : Stmt := top 30
theorem sc__tops : FnScope ["bags", "parents", "vertex", "count", "at"] ["bags", "parents", "vertex"] (defScope s__tops) := ⟨rfl, rfl, rfl, by decide +kernel, rfl, by decide +kernel, by decide +kernel⟩
abbrev s_fault : Stmt := top 31
theorem sc_fault : FnScope ["graph", "bags", "parents", "vertex", "u", "v", "bag"] ["graph", "bags", "parents"] (defScope s_fault) := ⟨rfl, rfl, rfl, by decide +kernel, rfl, by decide +kernel, by decide +kernel⟩
abbrev s_width_of : Stmt := top 32
theorem sc_width_of : FnScope ["bags", "bag"] ["bags"] (defScope s_width_of) := ⟨rfl, rfl, rfl, by decide +kernel, rfl, by decide +kernel, by decide +kernel⟩
abbrev s_bags_of : Stmt := top 33
theorem sc_bags_of : FnScope ["term", "k", "building", "_", "last", "bags", "parents", "index", "taken", "below", "tokens", "token"] ["term", "k"] (defScope s_bags_of) := ⟨rfl, rfl, rfl, by decide +kernel, rfl, by decide +kernel, by decide +kernel⟩
abbrev s__labels : Stmt := top 34
theorem sc__labels : FnScope ["bags", "parents", "labels", "at", "bag", "above", "used", "vertex", "label"] ["bags", "parents"] (defScope s__labels) := ⟨rfl, rfl, rfl, by decide +kernel, rfl, by decide +kernel, by decide +kernel⟩
abbrev s_Rows___init__ : Stmt := inClass (top 35) 0
theorem sc_Rows___init__ : FnScope ["self", "graph", "bags", "parents", "u", "v", "at", "_", "number"] ["self", "graph", "bags", "parents"] (defScope s_Rows___init__) := ⟨rfl, rfl, rfl, by decide +kernel, rfl, by decide +kernel, by decide +kernel⟩
abbrev s_Rows__by_labels : Stmt := inClass (top 35) 1
theorem sc_Rows__by_labels : FnScope ["self", "vertices"] ["self", "vertices"] (defScope s_Rows__by_labels) := ⟨rfl, rfl, rfl, by decide +kernel, rfl, by decide +kernel, by decide +kernel⟩
abbrev s_Rows__from_child : Stmt := inClass (top 35) 2
theorem sc_Rows__from_child : FnScope ["self", "at", "child", "steps", "order", "bag", "below", "fresh", "v"] ["self", "at", "child"] (defScope s_Rows__from_child) := ⟨rfl, rfl, rfl, by decide +kernel, rfl, by decide +kernel, by decide +kernel⟩
abbrev s_Rows_do : Stmt := inClass (top 35) 3
theorem sc_Rows_do : FnScope ["self", "at", "bag", "fresh", "steps", "order", "place", "child", "more", "others", "v", "pair"] ["self", "at"] (defScope s_Rows_do) := ⟨rfl, rfl, rfl, by decide +kernel, rfl, by decide +kernel, by decide +kernel⟩
abbrev s_Rows_whole : Stmt := inClass (top 35) 4
theorem sc_Rows_whole : FnScope ["self", "steps", "order", "v"] ["self"] (defScope s_Rows_whole) := ⟨rfl, rfl, rfl, by decide +kernel, rfl, by decide +kernel, by decide +kernel⟩
abbrev s_term_of : Stmt := top 36
theorem sc_term_of : FnScope ["graph", "bags", "parents", "k", "rows", "at", "steps", "order"] ["graph", "bags", "parents", "k"] (defScope s_term_of) := ⟨rfl, rfl, rfl, by decide +kernel, rfl, by decide +kernel, by decide +kernel⟩
abbrev s__law_cell : Stmt := top 39
theorem sc__law_cell : FnScope ["_law_script", "_law_k"] ["_law_script", "_law_k"] (defScope s__law_cell) := ⟨rfl, rfl, rfl, by decide +kernel, rfl, by decide +kernel, by decide +kernel⟩
abbrev s__law_mixed : Stmt := top 40
theorem sc__law_mixed : FnScope ["_law_cell_here", "_law_k", "_law_first", "_law_second"] ["_law_cell_here", "_law_k"] (defScope s__law_mixed) := ⟨rfl, rfl, rfl, by decide +kernel, rfl, by decide +kernel, by decide +kernel⟩
abbrev s__law_digits : Stmt := top 41
theorem sc__law_digits : FnScope ["_law_cell_here", "_law_count", "_law_many", "_law_digits_here", "_law_k"] ["_law_cell_here", "_law_count", "_law_many"] (defScope s__law_digits) := ⟨rfl, rfl, rfl, by decide +kernel, rfl, by decide +kernel, by decide +kernel⟩
abbrev s__law_frame : Stmt := top 42
theorem sc__law_frame : FnScope ["_law_step", "_law_frames", "_law_word", "_law_labels", "_law_pairs", "_law_i", "_law_pair", "_law_one"] ["_law_step", "_law_frames"] (defScope s__law_frame) := ⟨rfl, rfl, rfl, by decide +kernel, rfl, by decide +kernel, by decide +kernel⟩
abbrev s__law_put : Stmt := top 43
theorem sc__law_put : FnScope ["_law_steps", "_law_stack", "_law_step", "_law_many", "_law_frames", "_law_found", "_law_k"] ["_law_steps", "_law_stack", "_law_step"] (defScope s__law_put) := ⟨rfl, rfl, rfl, by decide +kernel, rfl, by decide +kernel, by decide +kernel⟩
abbrev s__law_put_join : Stmt := top 44
theorem sc__law_put_join : FnScope ["_law_steps", "_law_stack", "_law_k", "_law_lower", "_law_pair", "_law_label"] ["_law_steps", "_law_stack", "_law_k"] (defScope s__law_put_join) := ⟨rfl, rfl, rfl, by decide +kernel, rfl, by decide +kernel, by decide +kernel⟩
abbrev s__law_term : Stmt := top 45
theorem sc__law_term : FnScope ["_law_cell_here", "_law_k", "_law_most", "_law_digits_here", "_law_steps", "_law_stack", "_law_digit", "_law_word", "_law_i", "_law_j", "_law_turn"] ["_law_cell_here", "_law_k", "_law_most"] (defScope s__law_term) := ⟨rfl, rfl, rfl, by decide +kernel, rfl, by decide +kernel, by decide +kernel⟩
abbrev s__law_turned : Stmt := top 46
theorem sc__law_turned : FnScope ["_law_graph", "_law_order", "_law_u", "_law_v"] ["_law_graph", "_law_order"] (defScope s__law_turned) := ⟨rfl, rfl, rfl, by decide +kernel, rfl, by decide +kernel, by decide +kernel⟩
abbrev s_law : Stmt := top 47
theorem sc_law : FnScope ["_law_script", "_law_k", "_law_term_here", "_law_graph", "_law_turn", "_law_bags", "_law_parents", "_law_here", "_law_other", "_law_order", "_law_back"] ["_law_script"] (defScope s_law) := ⟨rfl, rfl, rfl, by decide +kernel, rfl, by decide +kernel, by decide +kernel⟩
end SW


set_option maxRecDepth 100000
set_option maxHeartbeats 0
/-! The head: the facts of the top by names, one run of the top in the kernel. Printed by gen_head.py. -/
namespace SW
open PySem PySem.Spec PyProof.Rows L2
def d_is_integer : He.DefD := ⟨("is_integer", none), "is_integer", "is_integer", defArgs s_is_integer, defBody s_is_integer, defScope s_is_integer, [], []⟩
def d_Graph___init__ : He.DefD := ⟨("Graph", some "__init__"), "__init__", "Graph.__init__", defArgs s_Graph___init__, defBody s_Graph___init__, defScope s_Graph___init__, [], []⟩
def d__is_edge : He.DefD := ⟨("_is_edge", none), "_is_edge", "_is_edge", defArgs s__is_edge, defBody s__is_edge, defScope s__is_edge, [], []⟩
def d_same : He.DefD := ⟨("same", none), "same", "same", defArgs s_same, defBody s_same, defScope s_same, [], []⟩
def d_is_step : He.DefD := ⟨("is_step", none), "is_step", "is_step", defArgs s_is_step, defBody s_is_step, defScope s_is_step, [], []⟩
def d_next_frame : He.DefD := ⟨("next_frame", none), "next_frame", "next_frame", defArgs s_next_frame, defBody s_next_frame, defScope s_next_frame, [], []⟩
def d_frames_of : He.DefD := ⟨("frames_of", none), "frames_of", "frames_of", defArgs s_frames_of, defBody s_frames_of, defScope s_frames_of, [], []⟩
def d_check_term : He.DefD := ⟨("check_term", none), "check_term", "check_term", defArgs s_check_term, defBody s_check_term, defScope s_check_term, [], []⟩
def d_most_labels : He.DefD := ⟨("most_labels", none), "most_labels", "most_labels", defArgs s_most_labels, defBody s_most_labels, defScope s_most_labels, [], []⟩
def d_operands : He.DefD := ⟨("operands", none), "operands", "operands", defArgs s_operands, defBody s_operands, defScope s_operands, [], []⟩
def d_Building___init__ : He.DefD := ⟨("Building", some "__init__"), "__init__", "Building.__init__", defArgs s_Building___init__, defBody s_Building___init__, defScope s_Building___init__, [], []⟩
def d_Building_take : He.DefD := ⟨("Building", some "take"), "take", "Building.take", defArgs s_Building_take, defBody s_Building_take, defScope s_Building_take, [], []⟩
def d_Building__join : He.DefD := ⟨("Building", some "_join"), "_join", "Building._join", defArgs s_Building__join, defBody s_Building__join, defScope s_Building__join, [], []⟩
def d_Building__changed : He.DefD := ⟨("Building", some "_changed"), "_changed", "Building._changed", defArgs s_Building__changed, defBody s_Building__changed, defScope s_Building__changed, [], []⟩
def d_Building_number : He.DefD := ⟨("Building", some "number"), "number", "Building.number", defArgs s_Building_number, defBody s_Building_number, defScope s_Building_number, [], []⟩
def d_Building_finish : He.DefD := ⟨("Building", some "finish"), "finish", "Building.finish", defArgs s_Building_finish, defBody s_Building_finish, defScope s_Building_finish, [], []⟩
def d_built : He.DefD := ⟨("built", none), "built", "built", defArgs s_built, defBody s_built, defScope s_built, [], []⟩
def d_made : He.DefD := ⟨("made", none), "made", "made", defArgs s_made, defBody s_made, defScope s_made, [], []⟩
def d__is_tuple_of_vertices : He.DefD := ⟨("_is_tuple_of_vertices", none), "_is_tuple_of_vertices", "_is_tuple_of_vertices", defArgs s__is_tuple_of_vertices, defBody s__is_tuple_of_vertices, defScope s__is_tuple_of_vertices, [], []⟩
def d__has_form : He.DefD := ⟨("_has_form", none), "_has_form", "_has_form", defArgs s__has_form, defBody s__has_form, defScope s__has_form, [], []⟩
def d__tops : He.DefD := ⟨("_tops", none), "_tops", "_tops", defArgs s__tops, defBody s__tops, defScope s__tops, [], []⟩
def d_fault : He.DefD := ⟨("fault", none), "fault", "fault", defArgs s_fault, defBody s_fault, defScope s_fault, [], []⟩
def d_width_of : He.DefD := ⟨("width_of", none), "width_of", "width_of", defArgs s_width_of, defBody s_width_of, defScope s_width_of, [], []⟩
def d_bags_of : He.DefD := ⟨("bags_of", none), "bags_of", "bags_of", defArgs s_bags_of, defBody s_bags_of, defScope s_bags_of, [], []⟩
def d__labels : He.DefD := ⟨("_labels", none), "_labels", "_labels", defArgs s__labels, defBody s__labels, defScope s__labels, [], []⟩
def d_Rows___init__ : He.DefD := ⟨("Rows", some "__init__"), "__init__", "Rows.__init__", defArgs s_Rows___init__, defBody s_Rows___init__, defScope s_Rows___init__, [], []⟩
def d_Rows__by_labels : He.DefD := ⟨("Rows", some "_by_labels"), "_by_labels", "Rows._by_labels", defArgs s_Rows__by_labels, defBody s_Rows__by_labels, defScope s_Rows__by_labels, [], []⟩
def d_Rows__from_child : He.DefD := ⟨("Rows", some "_from_child"), "_from_child", "Rows._from_child", defArgs s_Rows__from_child, defBody s_Rows__from_child, defScope s_Rows__from_child, [], []⟩
def d_Rows_do : He.DefD := ⟨("Rows", some "do"), "do", "Rows.do", defArgs s_Rows_do, defBody s_Rows_do, defScope s_Rows_do, [], []⟩
def d_Rows_whole : He.DefD := ⟨("Rows", some "whole"), "whole", "Rows.whole", defArgs s_Rows_whole, defBody s_Rows_whole, defScope s_Rows_whole, [], []⟩
def d_term_of : He.DefD := ⟨("term_of", none), "term_of", "term_of", defArgs s_term_of, defBody s_term_of, defScope s_term_of, [], []⟩
def d__law_cell : He.DefD := ⟨("_law_cell", none), "_law_cell", "_law_cell", defArgs s__law_cell, defBody s__law_cell, defScope s__law_cell, [], []⟩
def d__law_mixed : He.DefD := ⟨("_law_mixed", none), "_law_mixed", "_law_mixed", defArgs s__law_mixed, defBody s__law_mixed, defScope s__law_mixed, [], []⟩
def d__law_digits : He.DefD := ⟨("_law_digits", none), "_law_digits", "_law_digits", defArgs s__law_digits, defBody s__law_digits, defScope s__law_digits, [], []⟩
def d__law_frame : He.DefD := ⟨("_law_frame", none), "_law_frame", "_law_frame", defArgs s__law_frame, defBody s__law_frame, defScope s__law_frame, [], []⟩
def d__law_put : He.DefD := ⟨("_law_put", none), "_law_put", "_law_put", defArgs s__law_put, defBody s__law_put, defScope s__law_put, [], []⟩
def d__law_put_join : He.DefD := ⟨("_law_put_join", none), "_law_put_join", "_law_put_join", defArgs s__law_put_join, defBody s__law_put_join, defScope s__law_put_join, [], []⟩
def d__law_term : He.DefD := ⟨("_law_term", none), "_law_term", "_law_term", defArgs s__law_term, defBody s__law_term, defScope s__law_term, [], []⟩
def d__law_turned : He.DefD := ⟨("_law_turned", none), "_law_turned", "_law_turned", defArgs s__law_turned, defBody s__law_turned, defScope s__law_turned, [], []⟩
def d_law : He.DefD := ⟨("law", none), "law", "law", defArgs s_law, defBody s_law, defScope s_law, [], []⟩
def hfn : List He.DefD := ([d_is_integer, d_Graph___init__, d__is_edge, d_same, d_is_step, d_next_frame, d_frames_of, d_check_term, d_most_labels, d_operands, d_Building___init__, d_Building_take, d_Building__join, d_Building__changed, d_Building_number, d_Building_finish, d_built, d_made, d__is_tuple_of_vertices, d__has_form] : List He.DefD) ++ ([d__tops, d_fault, d_width_of, d_bags_of, d__labels, d_Rows___init__, d_Rows__by_labels, d_Rows__from_child, d_Rows_do, d_Rows_whole, d_term_of, d__law_cell, d__law_mixed, d__law_digits, d__law_frame, d__law_put, d__law_put_join, d__law_term, d__law_turned, d_law] : List He.DefD)
def hfa : List He.Fa := ([.glo "is_integer", .glo "_is_edge", .glo "same", .glo "is_step", .glo "next_frame", .glo "frames_of", .glo "check_term", .glo "most_labels", .glo "operands", .glo "built", .glo "made", .glo "_is_tuple_of_vertices", .glo "_has_form", .glo "_tops", .glo "fault", .glo "width_of", .glo "bags_of", .glo "_labels", .glo "term_of", .glo "_law_cell"] : List He.Fa) ++ ([.glo "_law_mixed", .glo "_law_digits", .glo "_law_frame", .glo "_law_put", .glo "_law_put_join", .glo "_law_term", .glo "_law_turned", .glo "law", .glo "Graph", .glo "Building", .glo "Rows", .glo "LABELS", .glo "OPERANDS", .free "isinstance", .free "int", .free "bool", .free "tuple", .free "str", .free "len", .free "range"] : List He.Fa) ++ ([.free "sorted", .free "all", .free "any", .free "max", .free "min", .free "list", .free "dict", .free "enumerate", .free "reversed", .int "MOST_VERTICES" 60, .int "MOST_STEPS" 20000, .int "MOST_LABEL" 12, .cls "Graph", .mkr "Graph", .noat "Graph" "size", .noat "Graph" "edges", .noat "Graph" "_near", .cls "Building", .mkr "Building", .noat "Building" "_stack"] : List He.Fa) ++ ([.noat "Building" "_becomes", .noat "Building" "_edges", .noat "Building" "_tokens", .noat "Building" "shown", .noat "Building" "_before", .noat "Building" "_numbers", .meth "Building" "take", .meth "Building" "_join", .meth "Building" "_changed", .meth "Building" "number", .meth "Building" "finish", .cls "Rows", .mkr "Rows", .noat "Rows" "_bags", .noat "Rows" "_labels", .noat "Rows" "_edges", .noat "Rows" "_children", .noat "Rows" "_done", .meth "Rows" "_by_labels", .meth "Rows" "_from_child"] : List He.Fa) ++ ([.meth "Rows" "do", .meth "Rows" "whole"] : List He.Fa)
def hts : List He.Tab := [(fun K => He.ga K "LABELS", ["empty", "new", "edge", "forget", "join"]), (fun K => He.ga K "OPERANDS", ["empty", "new", "edge", "forget", "join"])]
def htf : List He.Defn := [("Rows", some "_by_labels")]
def hex (K : PySem.W.Frag) : Bool := He.valsB K (He.ga K "LABELS") [("empty", .int 0), ("new", .int 1), ("edge", .int 2), ("forget", .int 1), ("join", .int 0)] && He.valsB K (He.ga K "OPERANDS") [("empty", .int 0), ("new", .int 1), ("edge", .int 1), ("forget", .int 1), ("join", .int 2)]
abbrev HR : PySem.W.OpenRow := PySem.W.OpenLaw.row PySem.Challenge.rw_smallwidth_k16_whole_terms_and_bags
abbrev hk : PySem.W.Hook := He.hookX 5 hfa hfn hts htf hex
def hob (s : PySem.W.SharedT) : He.AlX := He.obsX 5 hfa hfn hts htf hex (HandSHeadRun.getT s)
theorem hob_eq (s : PySem.W.SharedT) : hob s = hk.obs s.abs := He.obsX_eq (HandSHeadRun.getT_eq s)
def loose : List PySem.Str := (["_wall", "WidthError", "BadGraph", "TooLarge", "BadTerm", "BadBags", "MOST_VERTICES", "is_integer", "Graph", "_is_edge", "same", "MOST_STEPS", "MOST_LABEL", "LABELS", "OPERANDS", "is_step", "next_frame", "frames_of", "check_term", "most_labels"] : List PySem.Str) ++ (["operands", "Building", "built", "made", "_is_tuple_of_vertices", "_has_form", "_tops", "fault", "width_of", "bags_of", "_labels", "Rows", "term_of", "_law_is_integer", "_law_cell", "_law_mixed", "_law_digits", "_law_frame", "_law_put", "_law_put_join"] : List PySem.Str) ++ (["_law_term", "_law_turned"] : List PySem.Str)
theorem hrunF (w : World) : HandSHeadRun.RunEq HR (PySem.W.view HR.prog [47]) hk hob 20000 loose (w.withFollow "special-get-raises" false) := by
  intro os
  kernel_rfl
theorem hrunT (w : World) : HandSHeadRun.RunEq HR (PySem.W.view HR.prog [47]) hk hob 20000 loose (w.withFollow "special-get-raises" true) := by
  intro os
  kernel_rfl
theorem hrun (w : World) : HandSHeadRun.RunEq HR (PySem.W.view HR.prog [47]) hk hob 20000 loose w := PySem.W.byRow2 "special-get-raises" (P := fun w => HandSHeadRun.RunEq HR (PySem.W.view HR.prog [47]) hk hob 20000 loose w) hrunF hrunT w
end SW


set_option maxRecDepth 100000
set_option maxHeartbeats 2000000
/-! enumerate over a tuple. -/
namespace SW
open PySem PySem.Spec PyProof.Rows L2
set_option maxHeartbeats 1000000 in
theorem meets_enumerate_newT {v : Value} {o : Obj} {H : Heap → Prop} (B : Begins v o H) :
    Meets (Builtin.«enumerate.__new__» ⟨[.type "enumerate", v], []⟩) (fun _ R s => H s.heap ∧
      R (.ok (.ret (.ref (s.heap.push o).objs.size))) { s with heap := (s.heap.push o).push { cls := .type "enumerate", data := .fields #[.none, .bool false, .ref s.heap.objs.size, rawInt 0, .none, .none] } }) :=
  .of_wp fun prog w A R s h => by
    obtain ⟨hp, g, d, tk, os⟩ := s; obtain ⟨h1, h⟩ := h
    have hsub := sub_enumerate
    have q1 : ∀ {A' : Around} {E : Value → Shared → Prop} {Q : Value → Shared → Prop}, Q (.ref hp.objs.size) ⟨hp.push o, g, d, tk, os⟩ → wpAny (model prog w) A' (pyIter v) Q E ⟨hp, g, d, tk, os⟩ :=
      fun q => B.iter prog w _ _ ⟨hp, g, d, tk, os⟩ _ h1 q
    wp_walk using q1
    refine wpAny_stack_any fun st => wpAny_pure ?_
    split
    · rename_i c _ _ _ _ _
      cases (c == Value.type "enumerate")
      · wp_walk using q1
        exact ⟨_, rfl, h⟩
      · wp_walk using q1
        exact ⟨_, rfl, h⟩
    · wp_walk using q1
      exact ⟨_, rfl, h⟩
section
variable {prog : Program} {w : World} {A : Around} {E : Value → Shared → Prop} {s : Shared}
theorem call_enumerate_tuple {t : Addr} {items : Array Value} {Q : Value → Shared → Prop} (hL : s.heap.IsTuple t items)
    (h : ∀ h', IsEnum h' (s.heap.objs.size + 1) s.heap.objs.size 0 .none → h'.IsTupleIter s.heap.objs.size t 0 → h'.objs.size = s.heap.objs.size + 2 →
      (∀ b o, s.heap.get? b = some o → h'.get? b = some o) → Q (.ref (s.heap.objs.size + 1)) { s with heap := h' }) :
    wpAny (model prog w) A (call (.type "enumerate") [.ref t]) Q E s := by
  refine callType_new F.called_enumerate (by decide) (F.typeCall_enumerate_1 _) (F.newCall_enumerate_1 _) (fun obj => F.args_object_init_2 obj _) F.entry_enumerate_new
    (meets_enumerate_newT (begins_tuple t items)) ⟨hL, ?_⟩
  have hz : (s.heap.push { cls := .type "tuple_iterator", data := .fields #[.ref t, .int 0 0] }).objs.size = s.heap.objs.size + 1 := Heap.size_push ..
  show _ ∧ _
  rw [hz]
  have he : IsEnum ((s.heap.push { cls := .type "tuple_iterator", data := .fields #[.ref t, .int 0 0] }).push
      { cls := .type "enumerate", data := .fields #[.none, .bool false, .ref s.heap.objs.size, rawInt 0, .none, .none] }) (s.heap.objs.size + 1) s.heap.objs.size 0 .none := by
    have := Heap.get?_push_size (s.heap.push { cls := .type "tuple_iterator", data := .fields #[.ref t, .int 0 0] })
      (o := { cls := .type "enumerate", data := .fields #[.none, .bool false, .ref s.heap.objs.size, rawInt 0, .none, .none] }) rfl
    rw [hz] at this; exact this
  refine ⟨⟨_, he, rfl⟩, h _ he ⟨_, Heap.get?_push_of_some _ (Heap.get?_push_size _ rfl), rfl, rfl⟩ (by rw [Heap.size_push, hz]) fun b o x => Heap.get?_push_of_some _ (Heap.get?_push_of_some _ x)⟩
end
def Itet (K : PySem.W.Frag) (a : Addr) : It :=
  ⟨fun i H => ∃ (xs : List V) (x : V), SqT K H a xs ∧ xs[i]? = some x, fun i H v H' => ∃ T x, v = .ref T ∧ H T = none ∧ H' = upd H T (.tup [.int (i : Nat), x]) ∧ ∀ xs, SqT K H a xs → xs[i]? = some x, fun i H => ∃ xs : List V, SqT K H a xs ∧ xs.length = i⟩
theorem turn_enumT {P : Program} {w : World} {K : PySem.W.Frag} {elts : List Expr} {kk : Nat} {tpos : Pos} (a e it : Addr) (hea : e ≠ a) (hia : a ≠ it) :
    Turn P w K (.Tuple elts kk tpos) (Itet K a) [e, it] e (fun i h => (∃ old, IsEnum h e it ((i : Nat) : Int) old) ∧ h.IsTupleIter it a i ∧ e ≠ it) where
  mem := by simp
  obj := fun i h st b hb => by
    obtain ⟨⟨old, he⟩, ⟨o, ho, hc, hd⟩, _⟩ := st
    have e' : b = e ∨ b = it := by simpa using hb
    rcases e' with z | z
    · rw [z]; exact ⟨_, he, fun v q => nomatch q⟩
    · rw [z]; exact ⟨o, ho, fun v q => by rw [hd] at q; cases q⟩
  keep := fun i h h' st k => let ⟨⟨old, he⟩, hi, hne⟩ := st; ⟨⟨old, k e (by simp) _ he⟩, hi.at fun o q => k it (by simp) o q, hne⟩
  item := by
    intro X hP hw hK hc i pins s σ H E I hf st hg
    subst hP hw hK
    obtain ⟨⟨old, he⟩, hit, hne⟩ := st
    obtain ⟨xs, x, hq, hx⟩ := hg
    obtain ⟨its, rv, p, hz⟩ := I.tuple hq
    obtain ⟨u, hu, ru⟩ := rv.get hx
    have hel : e < s.heap.objs.size := Heap.lt_size he
    have hil : it < s.heap.objs.size := by obtain ⟨_, q, _⟩ := hit; exact Heap.lt_size q
    have hT0 : s.heap.IsTuple a its.toArray := p
    have hD := Draws.tuple (prog := X.prog) (w := X.w) (A := X.A.in1) (I.ok.hd hc) it a hia its.toArray
    have hii : i < its.toArray.size := by rw [List.size_toArray]; exact (List.getElem?_eq_some_iff.mp hu).1
    refine wpAny_pyNext_enum_itemD hD he ⟨hit, hT0⟩ hii hne (by simp [hne, hea]) fun x1 h' tk hP ho hst' hT hsz hk => ?_
    have ex1 : x1 = u := by
      have q1 : its.toArray[i]? = some x1 := hP
      rw [List.getElem?_toArray, hu] at q1
      exact (Option.some.inj q1).symm
    subst ex1
    obtain ⟨hit', _⟩ := hst'
    refine ⟨_, rfl, wpAny_letOwnedTupleGo_enum (s := { s with heap := h', toks := tk + 1 }) ho fun h'' he' sb => ?_⟩
    have hT2 : h''.get? s.heap.objs.size = some { cls := .type "tuple", data := .seq #[.int i tk, x1] } := (sb.2 _ (Nat.ne_of_gt hel)).trans hT
    have new : ObjOk X.prog X.w (upd H s.heap.objs.size (.tup [.int (i : Nat), x])) h'' s.heap.objs.size (.tup [.int (i : Nat), x]) :=
      ⟨by show 2 ≤ sizeLine; decide, [.int i tk, x1], .cons ⟨_, rfl⟩ (.cons ru .nil), ⟨_, hT2, rfl, _, rfl⟩⟩
    have I1 : Inv X pins σ (upd H s.heap.objs.size (.tup [.int (i : Nat), x])) { s with heap := h'', toks := tk + 1 } :=
      I.turnedNew (ch := [e, it]) (fun b ob hb q => (sb.2 b (fun z => hb (by simp [z]))).trans (hk b ob (fun z => hb (by simp [z])) (fun z => hb (by simp [z])) q)) hf (Nat.le_refl _) new
    refine ⟨.ref s.heap.objs.size, _, I1, rfl, ⟨_, x, rfl, I.hok.fresh (Nat.le_refl _), rfl, fun ys hy => by rw [I.tuple_inj hy hq]; exact hx⟩, ⟨⟨x1, ?_⟩, hit'.at fun o q => (sb.2 it (Ne.symm hne)).trans q, hne⟩, fun b hb => ?_⟩
    · have e1 : ((i + 1 : Nat) : Int) = (i : Int) + 1 := by omega
      rw [e1]; exact he'
    · have hb' : b < s.heap.objs.size := by
        have e' : b = e ∨ b = it := by simpa using hb
        rcases e' with z | z
        · rw [z]; exact hel
        · rw [z]; exact hil
      rw [upd_ne (Nat.ne_of_lt hb')]
      exact (hf b hb).1
  done := by
    intro X hP hw hK hc i pins s σ H E I hf st hg
    subst hP hw hK
    obtain ⟨⟨old, he⟩, hit, hne⟩ := st
    obtain ⟨xs, hq, hx⟩ := hg
    obtain ⟨its, rv, p, hz⟩ := I.tuple hq
    obtain ⟨f0, f1, f2, f3, f4, f5⟩ := hf it (by simp)
    have hl := rv.length
    have hT0 : s.heap.IsTuple a its.toArray := p
    have ei : i = its.toArray.size := by rw [List.size_toArray]; omega
    subst ei
    exact wpAny_pyNext_enum_endD (Draws.tuple (prog := X.prog) (w := X.w) (A := X.A.in1) (I.ok.hd hc) it a hia its.toArray) he ⟨hit, hT0⟩ fun h' eb => ⟨rfl, I.turned (t' := s.toks) (fun b o hb q => eb b o hb q) f0 f1 f3 f4 f5⟩
  self := fun A i s Q E st h => let ⟨⟨_, he⟩, _⟩ := st; wpAny_pyIter_enum he h
def iEnumT (K : PySem.W.Frag) (ta : TA) : TI := fun σ H R => ta σ H fun vs H1 => ∃ a xs, vs = [.ref a] ∧ SqT K H1 a xs ∧ R (Itet K a) H1
theorem pi_enumT {X : Cx} {e : Expr} {ta : TA} {p pos tpos : Pos} {elts : List Expr} {kk : Nat} (hg : Gl X "enumerate") (hm : X.mg "enumerate" = none) (ha : PA X [e] ta) (hs : starEach [e] X.env = [(false, eval e X.env)] := by rfl) :
    PI X (.Tuple elts kk tpos) (.Call (.Name "enumerate" p) [e] [] pos) (iEnumT X.K ta) := by
  refine ⟨fun pins s σ H R I h => ?_⟩
  refine Call_ (ld_blt I hg hm boot_enumerate (PyProof.Rows.callWith_type1 (thn (ha.run pos pins s σ H _ I h) fun us s1 ⟨vs, H1, I1, r1, q1⟩ => ?_) hs rfl))
  obtain ⟨a, xs, ex, hq, q⟩ := q1
  subst ex
  cases r1 with
  | cons r rr =>
    cases rr
    cases r
    obtain ⟨its, rv, p', hz⟩ := I1.tuple hq
    have hT0 : s1.heap.IsTuple a its.toArray := p'
    have hal : a < s1.heap.objs.size := by obtain ⟨_, q, _⟩ := hT0; exact Heap.lt_size q
    refine call_enumerate_tuple hT0 fun h' he hit hsz hk => wpAny_pyIter_enum he ?_
    have I2 : Inv X pins σ H1 { s1 with heap := h' } := I1.kept (t' := s1.toks) hk
    refine ⟨s1.heap.objs.size + 1, [s1.heap.objs.size + 1, s1.heap.objs.size], _, _, H1, rfl, I2, turn_enumT a (s1.heap.objs.size + 1) s1.heap.objs.size (Nat.ne_of_gt (Nat.lt_succ_of_lt hal)) (Nat.ne_of_lt hal), ⟨⟨.none, he⟩, hit, Nat.succ_ne_self _⟩, fun b hb => ?_, q⟩
    have e' : b = s1.heap.objs.size + 1 ∨ b = s1.heap.objs.size := by simpa using hb
    have hle : s1.heap.objs.size ≤ b := by
      rcases e' with z | z
      · rw [z]; exact Nat.le_add_right _ _
      · rw [z]; exact Nat.le_refl _
    exact I1.fpOk hle (I1.hok.fresh hle)
theorem walk_enumT {K : PySem.W.Frag} {a : Addr} {xs : List V} : Walk (Itet K a) xs.length (fun H => SqT K H a xs) (YPair (fun i => some (.int (i : Nat))) (fun i => xs[i]?)) := by
  refine ⟨fun i _ hi q => ⟨xs, xs[i], q, by simp [hi]⟩, fun _ q => ⟨xs, q, rfl⟩, fun i H v H' _ q y => ?_⟩
  obtain ⟨T, x, h1, h2, h3, h4⟩ := y
  exact ⟨T, .int (i : Nat), x, h1, h2, h3, rfl, h4 xs q⟩
end SW


set_option maxRecDepth 100000
set_option maxHeartbeats 2000000
/-! Data of tuples in the abstract heap; in, ==, sorted over them. -/
namespace SW
open PySem PySem.Spec PyProof.Rows L2
/-! ### data -/
mutual
/-- v stands for d: ints, bools, texts, None, tracked tuples -/
inductive TD (H : Hp) : V → PyData → Prop
  | non : TD H .non .none
  | bl (b : Bool) : TD H (.bl b) (.bool b)
  | int (i : Int) : TD H (.int i) (.int i)
  | str (x : Str) : TD H (.str x) (.str x)
  | tup {a : Addr} {xs : List V} {ds : List PyData} : H a = some (.tup xs) → TDs H xs ds → TD H (.ref a) (.tuple ds)
inductive TDs (H : Hp) : List V → List PyData → Prop
  | nil : TDs H [] []
  | cons {v : V} {vs : List V} {d : PyData} {ds : List PyData} : TD H v d → TDs H vs ds → TDs H (v :: vs) (d :: ds)
end
/-- the tuples stay -/
def SameT (H H' : Hp) : Prop := ∀ b xs, H b = some (.tup xs) → H' b = some (.tup xs)
theorem SameT.refl (H : Hp) : SameT H H := fun _ _ h => h
theorem SameT.trans {H H1 H2 : Hp} (a : SameT H H1) (b : SameT H1 H2) : SameT H H2 := fun c o h => b c o (a c o h)
theorem Same.t {H H' : Hp} (s : Same H H') : SameT H H' := fun b xs h => s b _ h
theorem ExtN.t {H H' : Hp} (s : LamX.ExtN H H') : SameT H H' := fun b xs h => s b _ h (fun _ z => by cases z)
theorem SameT.new {H : Hp} {p : Addr} {o : HO} (h : H p = none) : SameT H (upd H p o) := fun b xs e => by
  rw [upd_ne (ne_of_none e h)]; exact e
theorem SameT.put {H : Hp} {p : Addr} {o u : HO} (h : H p = some o) (n : ∀ xs, o ≠ .tup xs) : SameT H (upd H p u) := fun b xs e => by
  rw [upd_ne (ne_of e h (fun z => n xs z.symm))]; exact e
theorem same_new {H : Hp} {p : Addr} {o : HO} (h : H p = none) : Same H (upd H p o) := fun b u e => by
  rw [upd_ne (ne_of_none e h)]; exact e
/-- what was not tracked at first may be changed -/
theorem Same.put {H0 H : Hp} {p : Addr} {o : HO} (s : Same H0 H) (h : H0 p = none) : Same H0 (upd H p o) := fun b u e => by
  rw [upd_ne (ne_of_none e h)]; exact s b u e
mutual
theorem TD.mono {H H' : Hp} (s : SameT H H') : ∀ {v : V} {d : PyData}, TD H v d → TD H' v d
  | _, _, .non => .non
  | _, _, .bl b => .bl b
  | _, _, .int i => .int i
  | _, _, .str x => .str x
  | _, _, .tup h hs => .tup (s _ _ h) (TDs.mono s hs)
theorem TDs.mono {H H' : Hp} (s : SameT H H') : ∀ {vs : List V} {ds : List PyData}, TDs H vs ds → TDs H' vs ds
  | _, _, .nil => .nil
  | _, _, .cons h hs => .cons (TD.mono s h) (TDs.mono s hs)
end
mutual
theorem TD.dp {K : PySem.W.Frag} {H : Hp} : ∀ {v : V} {d : PyData}, TD H v d → Dp K H v d
  | _, _, .non => .non
  | _, _, .bl b => .bl b
  | _, _, .int i => .int i
  | _, _, .str x => .str x
  | _, _, .tup h hs => .tup (SqT.of h) (TDs.dp hs)
theorem TDs.dp {K : PySem.W.Frag} {H : Hp} : ∀ {vs : List V} {ds : List PyData}, TDs H vs ds → DpAll K H vs ds
  | _, _, .nil => .nil
  | _, _, .cons h hs => .cons (TD.dp h) (TDs.dp hs)
end
theorem TDs.length {H : Hp} : ∀ {vs : List V} {ds : List PyData}, TDs H vs ds → vs.length = ds.length
  | _, _, .nil => rfl
  | _, _, .cons _ h => congrArg (· + 1) (TDs.length h)
theorem TDs.get {H : Hp} : ∀ {vs : List V} {ds : List PyData} {i : Nat} {d : PyData}, TDs H vs ds → ds[i]? = some d → ∃ v, vs[i]? = some v ∧ TD H v d
  | _, _, _, _, .nil, e => by simp at e
  | _, _, 0, _, .cons h _, e => by simp at e; subst e; exact ⟨_, rfl, h⟩
  | _, _, i + 1, d, .cons _ t, e => by
    obtain ⟨v, h1, h2⟩ := TDs.get (i := i) (d := d) t (by simpa using e)
    exact ⟨v, by simpa using h1, h2⟩
theorem TDs.getV {H : Hp} : ∀ {vs : List V} {ds : List PyData} {i : Nat} {v : V}, TDs H vs ds → vs[i]? = some v → ∃ d, ds[i]? = some d ∧ TD H v d
  | _, _, _, _, .nil, e => by simp at e
  | _, _, 0, _, .cons h _, e => by simp at e; subst e; exact ⟨_, rfl, h⟩
  | _, _, i + 1, v, .cons _ t, e => by
    obtain ⟨d, h1, h2⟩ := TDs.getV (i := i) (v := v) t (by simpa using e)
    exact ⟨d, by simpa using h1, h2⟩
theorem TDs.append {H : Hp} : ∀ {vs us : List V} {ds es : List PyData}, TDs H vs ds → TDs H us es → TDs H (vs ++ us) (ds ++ es)
  | _, _, _, _, .nil, h => h
  | _, _, _, _, .cons h t, h2 => .cons h (TDs.append t h2)
theorem TDs.one {H : Hp} {v : V} {d : PyData} (h : TD H v d) : TDs H [v] [d] := .cons h .nil
theorem TDs.snoc {H : Hp} {vs : List V} {ds : List PyData} {v : V} {d : PyData} (h : TDs H vs ds) (h2 : TD H v d) : TDs H (vs ++ [v]) (ds ++ [d]) := h.append (.one h2)
theorem TDs.take {H : Hp} : ∀ {vs : List V} {ds : List PyData} (n : Nat), TDs H vs ds → TDs H (vs.take n) (ds.take n)
  | _, _, 0, _ => .nil
  | _, _, _ + 1, .nil => .nil
  | _, _, n + 1, .cons r t => .cons r (TDs.take n t)
theorem TDs.drop {H : Hp} : ∀ {vs : List V} {ds : List PyData} (n : Nat), TDs H vs ds → TDs H (vs.drop n) (ds.drop n)
  | _, _, 0, r => r
  | _, _, _ + 1, .nil => .nil
  | _, _, n + 1, .cons _ t => TDs.drop n t
theorem TD.tupI {H : Hp} {v : V} {ds : List PyData} (h : TD H v (.tuple ds)) : ∃ a xs, v = .ref a ∧ H a = some (.tup xs) ∧ TDs H xs ds := by
  cases h with
  | tup h hs => exact ⟨_, _, rfl, h, hs⟩
theorem TD.intI {H : Hp} {v : V} {i : Int} (h : TD H v (.int i)) : v = .int i := by
  cases h; rfl
theorem TD.strI {H : Hp} {v : V} {x : Str} (h : TD H v (.str x)) : v = .str x := by
  cases h; rfl
theorem TDs.ints {H : Hp} : ∀ {ns : List Int} {vs : List V}, TDs H vs (ns.map PyData.int) → vs = ns.map V.int
  | [], _, h => by cases h; rfl
  | n :: r, _, h => by
    cases h with
    | cons h1 h2 => rw [h1.intI, TDs.ints h2]; rfl
theorem TDs.ofInts {H : Hp} : ∀ ns : List Int, TDs H (ns.map V.int) (ns.map PyData.int)
  | [] => .nil
  | n :: r => .cons (.int n) (TDs.ofInts r)
/-- a list of data -/
def LD (H : Hp) (p : Addr) (ds : List PyData) : Prop := ∃ vs, H p = some (.lst vs) ∧ TDs H vs ds
theorem LD.same {H H' : Hp} {p : Addr} {ds : List PyData} (h : LD H p ds) (s : Same H H') : LD H' p ds := by
  obtain ⟨vs, h1, h2⟩ := h
  exact ⟨vs, s _ _ h1, h2.mono (Same.t s)⟩
theorem LD.ext {H H' : Hp} {p : Addr} {ds : List PyData} (h : LD H p ds) (s : LamX.ExtN H H') : LD H' p ds := by
  obtain ⟨vs, h1, h2⟩ := h
  exact ⟨vs, s _ _ h1 (fun _ z => by cases z), h2.mono (ExtN.t s)⟩
/-! ### encoders -/
def vN (n : Nat) : V := .int n
def dN (n : Nat) : PyData := .int n
def dP (p : Nat × Nat) : PyData := .tuple [dN p.1, dN p.2]
def dNs (l : List Nat) : PyData := .tuple (l.map dN)
def dPs (l : List (Nat × Nat)) : PyData := .tuple (l.map dP)
def dF (f : SWM.Frm) : PyData := .tuple [dNs f.1, dPs f.2]
def dS : SWM.Stp → PyData
  | .empty => .tuple [.str "empty"]
  | .new i => .tuple [.str "new", dN i]
  | .edge i j => .tuple [.str "edge", dN i, dN j]
  | .forget i => .tuple [.str "forget", dN i]
  | .join => .tuple [.str "join"]
def dT (T : List SWM.Stp) : PyData := .tuple (T.map dS)
theorem TDs.nats {H : Hp} : ∀ {ns : List Nat} {vs : List V}, TDs H vs (ns.map dN) → vs = ns.map vN
  | [], _, h => by cases h; rfl
  | n :: r, _, h => by
    cases h with
    | cons h1 h2 => rw [h1.intI, TDs.nats h2]; rfl
theorem TDs.ofNats {H : Hp} : ∀ ns : List Nat, TDs H (ns.map vN) (ns.map dN)
  | [] => .nil
  | n :: r => .cons (.int n) (TDs.ofNats r)
theorem TD.natsI {H : Hp} {v : V} {l : List Nat} (h : TD H v (dNs l)) : ∃ a, v = .ref a ∧ H a = some (.tup (l.map vN)) := by
  obtain ⟨a, xs, e, h1, h2⟩ := h.tupI
  rw [h2.nats] at h1
  exact ⟨a, e, h1⟩
theorem TD.ofNats {H : Hp} {a : Addr} {l : List Nat} (h : H a = some (.tup (l.map vN))) : TD H (.ref a) (dNs l) := .tup h (.ofNats l)
theorem TD.pairI {H : Hp} {v : V} {p : Nat × Nat} (h : TD H v (dP p)) : ∃ a, v = .ref a ∧ H a = some (.tup [vN p.1, vN p.2]) := by
  obtain ⟨a, xs, e, h1, h2⟩ := h.tupI
  cases h2 with
  | cons q1 q2 =>
    cases q2 with
    | cons q2 q3 =>
      cases q3
      rw [q1.intI, q2.intI] at h1
      exact ⟨a, e, h1⟩
theorem TD.ofPair {H : Hp} {a : Addr} {p : Nat × Nat} (h : H a = some (.tup [vN p.1, vN p.2])) : TD H (.ref a) (dP p) := .tup h (.cons (.int _) (.cons (.int _) .nil))
theorem TD.frmI {H : Hp} {v : V} {f : SWM.Frm} (h : TD H v (dF f)) : ∃ a x y, v = .ref a ∧ H a = some (.tup [x, y]) ∧ TD H x (dNs f.1) ∧ TD H y (dPs f.2) := by
  obtain ⟨a, xs, e, h1, h2⟩ := h.tupI
  cases h2 with
  | cons q1 q2 =>
    cases q2 with
    | cons q2 q3 =>
      cases q3
      exact ⟨a, _, _, e, h1, q1, q2⟩
/-! ### data that is laid, of small depth -/
structure Nice (d : PyData) : Prop where
  lay : d.canLay0 = true
  dep : d.depth ≤ 8
structure NiceAll (n : Nat) (ds : List PyData) : Prop where
  lay : PyData.canLayAll0 ds = true
  dep : PyData.depthAll ds ≤ n
theorem Nice.shaped {d : PyData} (h : Nice d) : SeqAt.shaped d = true := by
  show (d.canLay0 && decide (d.depth ≤ 64)) = true
  rw [h.lay, decide_eq_true (by have := h.dep; omega)]; rfl
theorem niceAll_map {β : Type} {f : β → PyData} {n : Nat} (h : ∀ b, (f b).canLay0 = true ∧ (f b).depth ≤ n) : ∀ l : List β, NiceAll n (l.map f)
  | [] => ⟨by simp [PyData.canLayAll0], by simp [PyData.depthAll]⟩
  | b :: r => by
    have q := niceAll_map h r
    have q1 := h b
    refine ⟨?_, ?_⟩
    · simp only [List.map_cons, PyData.canLayAll0, q1.1, q.lay, Bool.and_self]
    · have q2 := q.dep
      have q3 := q1.2
      simp only [List.map_cons, PyData.depthAll]
      omega
theorem NiceAll.tup {n : Nat} {ds : List PyData} (h : NiceAll n ds) : (PyData.tuple ds).canLay0 = true ∧ (PyData.tuple ds).depth ≤ n + 1 := by
  refine ⟨by simp only [PyData.canLay0]; exact h.lay, ?_⟩
  have := h.dep
  simp only [PyData.depth]
  omega
theorem NiceAll.lst {n : Nat} {ds : List PyData} (h : NiceAll n ds) (hn : n ≤ 7) : Nice (.list ds) := by
  refine ⟨by simp only [PyData.canLay0]; exact h.lay, ?_⟩
  have := h.dep
  simp only [PyData.depth]
  omega
theorem ni_N (n : Nat) : (dN n).canLay0 = true ∧ (dN n).depth ≤ 0 := ⟨by simp [dN, PyData.canLay0], by simp [dN, PyData.depth]⟩
theorem ni_P (p : Nat × Nat) : (dP p).canLay0 = true ∧ (dP p).depth ≤ 1 := by
  have e : dP p = .tuple ([p.1, p.2].map dN) := rfl
  rw [e]; exact (niceAll_map ni_N _).tup
theorem ni_Ns (l : List Nat) : (dNs l).canLay0 = true ∧ (dNs l).depth ≤ 1 := (niceAll_map ni_N _).tup
theorem ni_Ps (l : List (Nat × Nat)) : (dPs l).canLay0 = true ∧ (dPs l).depth ≤ 2 := (niceAll_map ni_P _).tup
theorem ni_F (f : SWM.Frm) : (dF f).canLay0 = true ∧ (dF f).depth ≤ 3 := by
  obtain ⟨a, b⟩ := ni_Ns f.1
  obtain ⟨c, d⟩ := ni_Ps f.2
  refine ⟨by simp [dF, PyData.canLay0, PyData.canLayAll0, a, c], ?_⟩
  simp only [dF, PyData.depth, PyData.depthAll]
  omega
theorem Nice.of {d : PyData} {n : Nat} (h : d.canLay0 = true ∧ d.depth ≤ n) (hn : n ≤ 8) : Nice d := ⟨h.1, Nat.le_trans h.2 hn⟩
/-! ### equality of data -/
theorem eqv_N (a b : Nat) : PyData.eqv (dN a) (dN b) = decide (a = b) := by
  show ((a : Int) == (b : Int)) = decide (a = b)
  by_cases h : a = b
  · subst h; simp
  · rw [decide_eq_false h]; exact beq_eq_false_iff_ne.mpr (by omega)
theorem eqvAll_map {β : Type} [DecidableEq β] {f : β → PyData} (h : ∀ a b, PyData.eqv (f a) (f b) = decide (a = b)) : ∀ l m : List β, PyData.eqvAll (l.map f) (m.map f) = decide (l = m)
  | [], [] => by simp [PyData.eqvAll]
  | [], _ :: _ => by simp [PyData.eqvAll]
  | _ :: _, [] => by simp [PyData.eqvAll]
  | a :: l, b :: m => by
    simp only [List.map_cons, PyData.eqvAll, h, eqvAll_map h l m]
    by_cases e : a = b <;> by_cases e2 : l = m <;> simp [e, e2]
theorem eqv_P (p q : Nat × Nat) : PyData.eqv (dP p) (dP q) = decide (p = q) := by
  obtain ⟨a, b⟩ := p
  obtain ⟨c, d⟩ := q
  have e := eqvAll_map eqv_N [a, b] [c, d]
  show PyData.eqvAll _ _ = _
  refine Eq.trans e ?_
  by_cases h1 : a = c <;> by_cases h2 : b = d <;> simp [h1, h2]
theorem eqv_Ns (l m : List Nat) : PyData.eqv (dNs l) (dNs m) = decide (l = m) := eqvAll_map eqv_N l m
theorem eqv_Ps (l m : List (Nat × Nat)) : PyData.eqv (dPs l) (dPs m) = decide (l = m) := eqvAll_map eqv_P l m
theorem any_map {β : Type} [DecidableEq β] {f : β → PyData} (h : ∀ a b, PyData.eqv (f a) (f b) = decide (a = b)) (x : β) (l : List β) : ((l.map f).any fun z => PyData.eqv z (f x)) = decide (x ∈ l) := by
  induction l with
  | nil => simp
  | cons a l ih =>
    rw [List.map_cons, List.any_cons, ih, h]
    by_cases e : a = x
    · subst e; simp
    · have e' : ¬ x = a := fun z => e z.symm
      simp [e, e']
/-! ### in, == -/
def rInT : R2 := fun x y H Q => ∃ d ds, TD H x d ∧ TD H y (.tuple ds) ∧ Nice d ∧ NiceAll 7 ds ∧ Q (.bl (ds.any fun z => PyData.eqv z d)) H
def rNotInT : R2 := fun x y H Q => ∃ d ds, TD H x d ∧ TD H y (.tuple ds) ∧ Nice d ∧ NiceAll 7 ds ∧ Q (.bl (!ds.any fun z => PyData.eqv z d)) H
def rInL : R2 := fun x y H Q => ∃ d ds a, TD H x d ∧ y = .ref a ∧ LD H a ds ∧ Nice d ∧ NiceAll 7 ds ∧ Q (.bl (ds.any fun z => PyData.eqv z d)) H
def rNotInL : R2 := fun x y H Q => ∃ d ds a, TD H x d ∧ y = .ref a ∧ LD H a ds ∧ Nice d ∧ NiceAll 7 ds ∧ Q (.bl (!ds.any fun z => PyData.eqv z d)) H
def rEqT : R2 := fun x y H Q => ∃ d e, TD H x d ∧ TD H y e ∧ Nice d ∧ Nice e ∧ Q (.bl (PyData.eqv d e)) H
def rNeT : R2 := fun x y H Q => ∃ d e, TD H x d ∧ TD H y e ∧ Nice d ∧ Nice e ∧ Q (.bl (!PyData.eqv d e)) H
section
variable {X : Cx}
theorem op_inT (hu : X.A.units + 65 < cLine) : OpR X (compareOp .In) rInT := by
  intro pins s σ H x y v u Q I rx ry h
  obtain ⟨d, ds, hd, he, sd, se, q⟩ := h
  obtain ⟨as, r1⟩ := Dp.reads I d x v hd.dp rx
  obtain ⟨bs, r2⟩ := Dp.reads I (.tuple ds) y u he.dp ry
  exact SeqAt.in_tuple_reads r2 r1 se.lay sd.lay (room_in_shaped sd.shaped hu) ⟨.bl _, H, I, rfl, q⟩
theorem op_notInT (hu : X.A.units + 65 < cLine) : OpR X (compareOp .NotIn) rNotInT := by
  intro pins s σ H x y v u Q I rx ry h
  obtain ⟨d, ds, hd, he, sd, se, q⟩ := h
  obtain ⟨as, r1⟩ := Dp.reads I d x v hd.dp rx
  obtain ⟨bs, r2⟩ := Dp.reads I (.tuple ds) y u he.dp ry
  exact SeqAt.notIn_tuple_reads r2 r1 se.lay sd.lay (room_in_shaped sd.shaped hu) ⟨.bl _, H, I, rfl, q⟩
theorem op_inL (hu : X.A.units + 65 < cLine) : OpR X (compareOp .In) rInL := by
  intro pins s σ H x y v u Q I rx ry h
  obtain ⟨d, ds, a, hd, rfl, ⟨vs, hl, he⟩, sd, se, q⟩ := h
  exact op_inD hu pins s σ H x _ v u Q I rx ry ⟨d, ds, hd.dp, .lst (SqL.of hl) he.dp, sd.shaped, (se.lst (Nat.le_refl _)).shaped, q⟩
theorem op_notInL (hu : X.A.units + 65 < cLine) : OpR X (compareOp .NotIn) rNotInL := by
  intro pins s σ H x y v u Q I rx ry h
  obtain ⟨d, ds, a, hd, rfl, ⟨vs, hl, he⟩, sd, se, q⟩ := h
  exact op_notInD hu pins s σ H x _ v u Q I rx ry ⟨d, ds, hd.dp, .lst (SqL.of hl) he.dp, sd.shaped, (se.lst (Nat.le_refl _)).shaped, q⟩
theorem op_eqT (hu : X.A.units + 65 < cLine) : OpR X (compareOp .Eq) rEqT := by
  intro pins s σ H x y v u Q I rx ry h
  obtain ⟨d, e, hd, he, sd, se, q⟩ := h
  exact op_eqD (by omega) pins s σ H x y v u Q I rx ry ⟨d, e, hd.dp, he.dp, sd.shaped, se.shaped, q⟩
theorem op_neT (hu : X.A.units + 65 < cLine) : OpR X (compareOp .NotEq) rNeT := by
  intro pins s σ H x y v u Q I rx ry h
  obtain ⟨d, e, hd, he, sd, se, q⟩ := h
  exact op_neD (by omega) pins s σ H x y v u Q I rx ry ⟨d, e, hd.dp, he.dp, sd.shaped, se.shaped, q⟩
end
end SW


set_option maxRecDepth 100000
set_option maxHeartbeats 2000000
/-! sorted over data. -/
namespace SW
open PySem PySem.Spec PyProof.Rows L2
open PySem.W (EachIs)
/-- u stands for b in H -/
def RD (H : Hp) {β : Type} (enc : β → PyData) (u : Value) (b : β) : Prop := ∃ v, RelV v u ∧ TD H v (enc b)
theorem each_rd {H : Hp} {β : Type} {enc : β → PyData} : ∀ {vs : List V} {us : List Value} {bs : List β}, Vals vs us → TDs H vs (bs.map enc) → EachIs (RD H enc) us bs
  | _, _, [], r, h => by
    cases h
    cases r
    exact .nil
  | _, _, b :: bs, r, h => by
    have h' : TDs H _ (enc b :: bs.map enc) := h
    cases h' with
    | cons h1 h2 =>
      cases r with
      | cons r1 r2 => exact .cons ⟨_, r1, h1⟩ (each_rd r2 h2)
theorem rd_each {H : Hp} {β : Type} {enc : β → PyData} : ∀ {us : List Value} {bs : List β}, EachIs (RD H enc) us bs → ∃ vs, Vals vs us ∧ TDs H vs (bs.map enc)
  | _, _, .nil => ⟨[], .nil, .nil⟩
  | _, _, .cons ⟨v, r, h⟩ t => by
    obtain ⟨vs, r2, h2⟩ := rd_each t
    exact ⟨v :: vs, .cons r r2, .cons h h2⟩
section
variable {X : Cx} {pins : List (Addr × Obj)} {σ : L2.St} {H : Hp} {s : Shared}
mutual
/-- tuple data are read off tuples alone -/
theorem TD.readsN (I : Inv X pins σ H s) {a : Addr} (ha : ∀ o, s.heap.get? a = some o → o.cls = .type "list") : ∀ (d : PyData) (v : V) (u : Value), TD H v d → RelV v u → ∃ as, Reads s.heap u d as ∧ a ∉ as
  | .none, _, _, h, r => by
    cases h
    cases r
    exact ⟨_, Reads.none, by simp⟩
  | .bool b, _, _, h, r => by
    cases h
    cases r
    exact ⟨_, Reads.bool b, by simp⟩
  | .int i, _, _, h, r => by
    cases h
    obtain ⟨t, rfl⟩ := r
    exact ⟨_, Reads.int i t, by simp⟩
  | .str x, _, _, h, r => by
    cases h
    obtain ⟨t, rfl⟩ := r
    exact ⟨_, Reads.str x t, by simp⟩
  | .tuple ds, _, _, h, r => by
    cases h with
    | tup hs h2 =>
      cases r
      obtain ⟨its, rv, ⟨o, ho, hc, n, hd⟩, hz⟩ := I.tuple (SqT.of hs)
      obtain ⟨as, q1, q2⟩ := TDs.readsN I ha ds _ its h2 rv
      exact ⟨_, Reads.tuple ho hc hd q1, q2⟩
  | .list _, _, _, h, _ => by cases h
  | .dict _, _, _, h, _ => by cases h
theorem TDs.readsN (I : Inv X pins σ H s) {a : Addr} (ha : ∀ o, s.heap.get? a = some o → o.cls = .type "list") : ∀ (ds : List PyData) (vs : List V) (us : List Value), TDs H vs ds → Vals vs us → ∃ as, ReadsAll s.heap us ds as ∧ a ∉ as
  | [], _, _, h, r => by
    cases h
    cases r
    exact ⟨_, ReadsAll.nil, by simp⟩
  | d :: ds, _, _, h, r => by
    cases h with
    | cons h1 h2 =>
      cases r with
      | cons r1 r2 =>
        obtain ⟨as, q1, q2⟩ := TD.readsN I ha d _ _ h1 r1
        obtain ⟨bs, q3, q4⟩ := TDs.readsN I ha ds _ _ h2 r2
        exact ⟨as ++ bs, ReadsAll.cons q1 q3, by rw [List.mem_append, not_or]; exact ⟨q2, q4⟩⟩
end
/-- the sort of collected values -/
theorem sort_core {A : Around} {β : Type} {enc : β → PyData} {acc : List Value} {bs : List β} {Q : V → Hp → Prop} {E : Value → Shared → Prop} (I : Inv X pins σ H s) (e : EachIs (RD H enc) acc bs) (hal : PySem.W.AllAlike (bs.map enc)) (hk : PySem.W.Sortable (bs.map enc)) (hL : bs.length ≤ sizeLine) (hd : ∀ b, (enc b).depth ≤ 7)
    (hu : A.units + 65 < cLine) (q : ∀ (p : Addr) (ys : List V), TDs H ys ((bs.mergeSort (PySem.W.dataLe false enc)).map enc) → H p = none → Q (.ref p) (upd H p (.lst ys))) :
    wpAny (model X.prog X.w) A (newList acc >>= fun l => holding [l] (call (.builtin "list.sort") [l] []) >>= fun _ => ret l) (fun fin s' => ∃ v, fin = .done (.ret v) ∧ ∃ x H', Inv X pins σ H' s' ∧ RelV x v ∧ Q x H') E s := by
  have hal2 : acc.length = bs.length := e.length
  refine wpAny_bind (wpAny_newList ?_ (by rw [hal2]; exact hL))
  have hoL : (s.heap.push (seqObj "list" acc.toArray 0)).get? s.heap.objs.size = some (seqObj "list" acc.toArray 0) := Heap.get?_push_size _ rfl
  have I1 : Inv X pins σ H { s with heap := s.heap.push (seqObj "list" acc.toArray 0) } := I.kept (t' := s.toks) fun b o e => Heap.get?_push_of_some _ e
  have hcl : ∀ o, (s.heap.push (seqObj "list" acc.toArray 0)).get? s.heap.objs.size = some o → o.cls = .type "list" := fun o z => by
    rw [hoL] at z; cases z; rfl
  have er : EachIs (fun v b => ∃ as, Reads (s.heap.push (seqObj "list" acc.toArray 0)) v (enc b) as ∧ s.heap.objs.size ∉ as) acc bs := e.mono fun u b ⟨v, r, h⟩ => TD.readsN I1 hcl _ _ _ h r
  show wpAny _ _ _ _ _ { s with heap := s.heap.push (seqObj "list" acc.toArray 0) }
  refine wpAny_bind (wpAny_holding (PySem.W.list_sort_data (s := { s with heap := s.heap.push (seqObj "list" acc.toArray 0) }) (vs := acc) (bs := bs) (enc := enc) (R := RD H enc) hoL e er hal hk hL (fun b _ => by have := hd b; omega) fun out h1 h2 => ?_))
  obtain ⟨e', he'⟩ := PyProof.Rows.sortedHeap_at (vs := acc) (out := out.toArray) hoL
  obtain ⟨ys, r1, r2⟩ := rd_each h2
  have hlen : ys.length ≤ sizeLine := by rw [r1.length, h1]; exact hL
  refine wpAny_pure ⟨_, rfl, .ref s.heap.objs.size, upd H s.heap.objs.size (.lst ys), I.laid (t' := s.toks) (fun b u z => ?_) (Nat.le_refl _) (show ObjOk X.prog X.w _ _ _ (.lst ys) from ⟨hlen, out, e', r1, he'⟩), rfl, q _ ys r2 (I.hok.fresh (Nat.le_refl _))⟩
  have hb : b < s.heap.objs.size := Heap.lt_size z
  rw [PyProof.Rows.sortedHeap_old (Nat.ne_of_lt hb) (by rw [size_push']; exact Nat.lt_succ_of_lt hb)]
  exact Heap.get?_push_of_some _ z
/-- sorted(xs) of a list or a tuple -/
@[irreducible] def rSortedD : List V → Hp → VK → Prop := fun vs H Q => ∃ (a : Addr) (xs : List V) (β : Type) (enc : β → PyData) (bs : List β), vs = [.ref a] ∧ (H a = some (.lst xs) ∨ H a = some (.tup xs)) ∧ TDs H xs (bs.map enc) ∧ PySem.W.AllAlike (bs.map enc) ∧ PySem.W.Sortable (bs.map enc) ∧ (∀ b, (enc b).depth ≤ 7) ∧
  ∀ (p : Addr) (ys : List V), TDs H ys ((bs.mergeSort (PySem.W.dataLe false enc)).map enc) → H p = none → Q (.ref p) (upd H p (.lst ys))
theorem cr_sortedD (hu : X.A.units + 66 < cLine) : CallR X (.builtin "sorted") rSortedD := by
  intro pins s σ H xs us Q I r q
  unfold rSortedD at q
  obtain ⟨a, xs, β, enc, bs, rfl, hs, ht, hal, hk, hd, q⟩ := q
  rw [Vals.ref1 r]
  refine Calls.call_function_entry PyProof.Rows.kind_sorted PyProof.Rows.plain_sorted PyProof.Rows.entry_sorted (PyProof.Rows.args_sorted1 _) ?_
  unfold Builtin.«sorted»
  refine wpAny_bind (m := checkCount "sorted" 1 1 _) (wpAny_pure ?_)
  have fin : ∀ (o : Obj) (its : List Value) (n : Nat) (T : String), (T = "list" ∨ T = "tuple") → s.heap.get? a = some o → o.cls = .type T → o.data = .seq its.toArray n → Vals xs its → xs.length ≤ sizeLine → wpAny (model X.prog X.w) X.A.in1 (collect (.ref a) >>= fun l0 => newList l0 >>= fun l => holding [l] (call (.builtin "list.sort") [l] []) >>= fun _ => ret l) (fun fin s' => ∃ v, fin = .done (.ret v) ∧ ∃ x H', Inv X pins σ H' s' ∧ RelV x v ∧ Q x H') X.xe s := by
    intro o its n T hT ho hc hd2 rv hz
    refine wpAny_bind (wpAny_collect_seq a hT ho hc hd2 (fun h' hk2 => ?_) (by rw [List.size_toArray, ← rv.length]; exact hz))
    have I1 : Inv X pins σ H { s with heap := h' } := I.kept (t' := s.toks) hk2
    have e1 : PySem.W.EachIs (RD H enc) its.toArray.toList bs := by
      have e0 := each_rd (enc := enc) rv ht
      simpa using e0
    exact sort_core I1 e1 hal hk (by rw [← e1.length]; simp only [List.toList_toArray]; rw [← rv.length]; exact hz) hd hu q
  rcases hs with h | h
  · obtain ⟨its, rv, ⟨o, n, ho, hc, hdn, hdt⟩, hz⟩ := I.list (SqL.of h)
    exact fin o its n "list" (.inl rfl) ho hc hdt rv hz
  · obtain ⟨its, rv, ⟨o, ho, hc, n, hdt⟩, hz⟩ := I.tuple (SqT.of h)
    exact fin o its n "tuple" (.inr rfl) ho hc hdt rv hz
/-- a key of a dict of pairs -/
def kP (p : Nat × Nat) : List Key := [.inl (p.1 : Int), .inl (p.2 : Int)]
/-- sorted(d) of a dict whose keys are pairs -/
@[irreducible] def rSortedKP : List V → Hp → VK → Prop := fun vs H Q => ∃ (a : Addr) (kvs : List (List Key × V)) (ps : List (Nat × Nat)), vs = [.ref a] ∧ H a = some (.dT kvs) ∧ kvs.map (·.1) = ps.map kP ∧
  ∀ (p : Addr) (ys : List V), TDs H ys ((ps.mergeSort (PySem.W.dataLe false dP)).map dP) → H p = none → Q (.ref p) (upd H p (.lst ys))
theorem cr_sortedKP (hcalm : X.calm = true) (hu : X.A.units + 66 < cLine) : CallR X (.builtin "sorted") rSortedKP := by
  intro pins s σ H xs us Q I r q
  unfold rSortedKP at q
  obtain ⟨a, kvs, ps, rfl, hs, hks, q⟩ := q
  rw [Vals.ref1 r]
  obtain ⟨z, lo, ws, rel, o, es, ep, ho, hx, hdt, hes, hnd⟩ := I.hok a _ hs
  have hkl : kvs.length = ps.length := by
    have e := congrArg List.length hks
    rw [List.length_map, List.length_map] at e
    exact e
  have hwl : kvs.length = ws.length := Paired.length rel
  have hsz : es.size = ws.length := by rw [← Array.length_toList, hes, List.length_map]
  refine Calls.call_function_entry PyProof.Rows.kind_sorted PyProof.Rows.plain_sorted PyProof.Rows.entry_sorted (PyProof.Rows.args_sorted1 _) ?_
  unfold Builtin.«sorted»
  refine wpAny_bind (m := checkCount "sorted" 1 1 _) (wpAny_pure ?_)
  refine wpAny_bind (PySem.W.kdu_collect (A := X.A.in1) (kdl_raw (es := es) (ep := ep) (o := o) lo hx hdt) (I.ok.hd hcalm) ho (by rw [hsz, ← hwl]; exact z) fun h' tk acc hk hacc => ?_)
  have I1 : Inv X pins σ H { s with heap := h', toks := tk } := I.kept hk
  have get : ∀ (ws : List (List Key × Addr × Value)) (kvs : List (List Key × V)) (ps : List (Nat × Nat)), kvs.map (·.1) = ps.map kP → Paired (fun (p : List Key × V) (q : List Key × Addr × Value) => p.1 = q.1 ∧ H q.2.1 = some (.tup (p.1.map kV)) ∧ RelV p.2 q.2.2) kvs ws → PySem.W.EachIs (RD H dP) (ws.map fun x => Value.ref x.2.1) ps := by
    intro ws
    induction ws with
    | nil =>
      intro kvs ps h1 h2
      cases h2
      cases ps with
      | nil => exact .nil
      | cons p ps => cases h1
    | cons x ws ih =>
      intro kvs ps h1 h2
      cases h2 with
      | @cons kv _ kvs' _ q1 q2 =>
        cases ps with
        | nil => cases h1
        | cons p ps =>
          have h1' : kv.1 :: kvs'.map (·.1) = kP p :: ps.map kP := h1
          injection h1' with e1 e2
          refine .cons ⟨.ref x.2.1, rfl, TD.ofPair ?_⟩ (ih kvs' ps e2 q2)
          rw [q1.2.1, e1]; rfl
  have hac : acc.toList = ws.map fun x => Value.ref x.2.1 := by
    refine List.ext_getElem? fun j => ?_
    rw [Array.getElem?_toList]
    by_cases hj : j < es.size
    · obtain ⟨v, hv⟩ : ∃ v, acc[j]? = some v := ⟨_, Array.getElem?_eq_getElem (by rw [hacc.1]; exact hj)⟩
      obtain ⟨en, e1, e2⟩ := hacc.2 j v hv
      rw [hv, e2]
      rw [← Array.getElem?_toList, hes, List.getElem?_map] at e1
      rw [List.getElem?_map]
      cases ew : ws[j]? with
      | none => rw [ew] at e1; cases e1
      | some x =>
        rw [ew] at e1
        have e3 := Option.some.inj e1
        rw [← e3]; rfl
    · rw [Array.getElem?_eq_none (by rw [hacc.1]; omega), List.getElem?_eq_none (by rw [List.length_map, ← hsz]; omega)]
  have e1 : PySem.W.EachIs (RD H dP) acc.toList ps := by
    rw [hac]; exact get ws kvs ps hks rel
  refine sort_core I1 e1 (PySem.W.AllAlike.of fun b b' => ?_) (PySem.W.Sortable.tuples fun b => ⟨_, _, rfl⟩) (by rw [← hkl]; exact z) (fun b => Nat.le_trans (ni_P b).2 (by decide)) hu q
  simp [dP, dN, PySem.W.alike, PySem.W.alikeAll]
end
theorem le_dN : PySem.W.dataLe false dN = SWM.leN := by
  have e := PySem.W.dataLe_int (fun n : Nat => (n : Int))
  show PySem.W.dataLe false (fun b : Nat => PyData.int (b : Int)) = _
  rw [e]
  funext a b
  unfold SWM.leN
  by_cases h : a ≤ b
  · rw [decide_eq_true h, decide_eq_true (by omega)]
  · rw [decide_eq_false h, decide_eq_false (by omega)]
theorem le_dP : PySem.W.dataLe false dP = SWM.leP := by
  have e := PySem.W.dataLe_ii (fun p : Nat × Nat => (p.1 : Int)) (fun p => (p.2 : Int))
  show PySem.W.dataLe false (fun b : Nat × Nat => PyData.tuple [PyData.int (b.1 : Int), PyData.int (b.2 : Int)]) = _
  rw [e]
  funext p q
  unfold SWM.leP
  by_cases h : p.1 < q.1 ∨ (p.1 = q.1 ∧ p.2 ≤ q.2)
  · rw [decide_eq_true h, decide_eq_true (by omega)]
  · rw [decide_eq_false h, decide_eq_false (by omega)]
/-! the readings in short: a list or tuple of numbers, of pairs -/
theorem sortedN {H : Hp} {Q : VK} {a : Addr} {xs : List V} (l : List Nat) (h : H a = some (.lst xs) ∨ H a = some (.tup xs)) (ht : TDs H xs (l.map dN)) (q : ∀ p, H p = none → Q (.ref p) (upd H p (.lst ((SWM.srtN l).map vN)))) : rSortedD [.ref a] H Q := by
  unfold rSortedD
  refine ⟨a, xs, Nat, dN, l, rfl, h, ht, PySem.W.AllAlike.of fun b b' => by simp [dN, PySem.W.alike], PySem.W.Sortable.others fun b => ⟨by simp [dN], fun xs => by simp [dN]⟩, fun b => by rw [Nat.le_zero.mp (ni_N b).2]; omega, fun p ys hy hp => ?_⟩
  rw [le_dN] at hy
  have e := TDs.nats (ns := SWM.srtN l) hy
  rw [e]; exact q p hp
theorem sortedP {H : Hp} {Q : VK} {a : Addr} {xs : List V} (l : List (Nat × Nat)) (h : H a = some (.lst xs) ∨ H a = some (.tup xs)) (ht : TDs H xs (l.map dP)) (q : ∀ p ys, TDs H ys ((SWM.srtP l).map dP) → H p = none → Q (.ref p) (upd H p (.lst ys))) : rSortedD [.ref a] H Q := by
  unfold rSortedD
  refine ⟨a, xs, Nat × Nat, dP, l, rfl, h, ht, PySem.W.AllAlike.of fun b b' => by simp [dP, dN, PySem.W.alike, PySem.W.alikeAll], PySem.W.Sortable.tuples fun b => ⟨_, _, rfl⟩, fun b => Nat.le_trans (ni_P b).2 (by decide), fun p ys hy hp => ?_⟩
  rw [le_dP] at hy
  exact q p ys hy hp
theorem sortedKP {H : Hp} {Q : VK} {a : Addr} {kvs : List (List Key × V)} (l : List (Nat × Nat)) (h : H a = some (.dT kvs)) (hk : kvs.map (·.1) = l.map kP) (q : ∀ p ys, TDs H ys ((SWM.srtP l).map dP) → H p = none → Q (.ref p) (upd H p (.lst ys))) : rSortedKP [.ref a] H Q := by
  unfold rSortedKP
  refine ⟨a, kvs, l, rfl, h, hk, fun p ys hy hp => ?_⟩
  rw [le_dP] at hy
  exact q p ys hy hp
end SW


set_option maxRecDepth 100000
set_option maxHeartbeats 2000000
/-! The facts of the text that the walks take. Printed by gen_txt.py. -/
namespace SW
open PySem PySem.Spec PyProof.Rows L2
structure Txt (K : PySem.W.Frag) (mg : Str → Option Value) (w : World) where
  f_is_integer : Addr
  fd_is_integer : FuncData
  F_is_integer : FnP K "is_integer" "is_integer" s_is_integer f_is_integer fd_is_integer
  g_is_integer : mg "is_integer" = some (.ref f_is_integer)
  f_Graph___init__ : Addr
  fd_Graph___init__ : FuncData
  F_Graph___init__ : FnP K "__init__" "Graph.__init__" s_Graph___init__ f_Graph___init__ fd_Graph___init__
  f__is_edge : Addr
  fd__is_edge : FuncData
  F__is_edge : FnP K "_is_edge" "_is_edge" s__is_edge f__is_edge fd__is_edge
  g__is_edge : mg "_is_edge" = some (.ref f__is_edge)
  f_same : Addr
  fd_same : FuncData
  F_same : FnP K "same" "same" s_same f_same fd_same
  g_same : mg "same" = some (.ref f_same)
  f_is_step : Addr
  fd_is_step : FuncData
  F_is_step : FnP K "is_step" "is_step" s_is_step f_is_step fd_is_step
  g_is_step : mg "is_step" = some (.ref f_is_step)
  f_next_frame : Addr
  fd_next_frame : FuncData
  F_next_frame : FnP K "next_frame" "next_frame" s_next_frame f_next_frame fd_next_frame
  g_next_frame : mg "next_frame" = some (.ref f_next_frame)
  f_frames_of : Addr
  fd_frames_of : FuncData
  F_frames_of : FnP K "frames_of" "frames_of" s_frames_of f_frames_of fd_frames_of
  g_frames_of : mg "frames_of" = some (.ref f_frames_of)
  f_check_term : Addr
  fd_check_term : FuncData
  F_check_term : FnP K "check_term" "check_term" s_check_term f_check_term fd_check_term
  g_check_term : mg "check_term" = some (.ref f_check_term)
  f_most_labels : Addr
  fd_most_labels : FuncData
  F_most_labels : FnP K "most_labels" "most_labels" s_most_labels f_most_labels fd_most_labels
  g_most_labels : mg "most_labels" = some (.ref f_most_labels)
  f_operands : Addr
  fd_operands : FuncData
  F_operands : FnP K "operands" "operands" s_operands f_operands fd_operands
  g_operands : mg "operands" = some (.ref f_operands)
  f_Building___init__ : Addr
  fd_Building___init__ : FuncData
  F_Building___init__ : FnP K "__init__" "Building.__init__" s_Building___init__ f_Building___init__ fd_Building___init__
  f_Building_take : Addr
  fd_Building_take : FuncData
  F_Building_take : FnP K "take" "Building.take" s_Building_take f_Building_take fd_Building_take
  f_Building__join : Addr
  fd_Building__join : FuncData
  F_Building__join : FnP K "_join" "Building._join" s_Building__join f_Building__join fd_Building__join
  f_Building__changed : Addr
  fd_Building__changed : FuncData
  F_Building__changed : FnP K "_changed" "Building._changed" s_Building__changed f_Building__changed fd_Building__changed
  f_Building_number : Addr
  fd_Building_number : FuncData
  F_Building_number : FnP K "number" "Building.number" s_Building_number f_Building_number fd_Building_number
  f_Building_finish : Addr
  fd_Building_finish : FuncData
  F_Building_finish : FnP K "finish" "Building.finish" s_Building_finish f_Building_finish fd_Building_finish
  f_built : Addr
  fd_built : FuncData
  F_built : FnP K "built" "built" s_built f_built fd_built
  g_built : mg "built" = some (.ref f_built)
  f_made : Addr
  fd_made : FuncData
  F_made : FnP K "made" "made" s_made f_made fd_made
  g_made : mg "made" = some (.ref f_made)
  f__is_tuple_of_vertices : Addr
  fd__is_tuple_of_vertices : FuncData
  F__is_tuple_of_vertices : FnP K "_is_tuple_of_vertices" "_is_tuple_of_vertices" s__is_tuple_of_vertices f__is_tuple_of_vertices fd__is_tuple_of_vertices
  g__is_tuple_of_vertices : mg "_is_tuple_of_vertices" = some (.ref f__is_tuple_of_vertices)
  f__has_form : Addr
  fd__has_form : FuncData
  F__has_form : FnP K "_has_form" "_has_form" s__has_form f__has_form fd__has_form
  g__has_form : mg "_has_form" = some (.ref f__has_form)
  f__tops : Addr
  fd__tops : FuncData
  F__tops : FnP K "_tops" "_tops" s__tops f__tops fd__tops
  g__tops : mg "_tops" = some (.ref f__tops)
  f_fault : Addr
  fd_fault : FuncData
  F_fault : FnP K "fault" "fault" s_fault f_fault fd_fault
  g_fault : mg "fault" = some (.ref f_fault)
  f_width_of : Addr
  fd_width_of : FuncData
  F_width_of : FnP K "width_of" "width_of" s_width_of f_width_of fd_width_of
  g_width_of : mg "width_of" = some (.ref f_width_of)
  f_bags_of : Addr
  fd_bags_of : FuncData
  F_bags_of : FnP K "bags_of" "bags_of" s_bags_of f_bags_of fd_bags_of
  g_bags_of : mg "bags_of" = some (.ref f_bags_of)
  f__labels : Addr
  fd__labels : FuncData
  F__labels : FnP K "_labels" "_labels" s__labels f__labels fd__labels
  g__labels : mg "_labels" = some (.ref f__labels)
  f_Rows___init__ : Addr
  fd_Rows___init__ : FuncData
  F_Rows___init__ : FnP K "__init__" "Rows.__init__" s_Rows___init__ f_Rows___init__ fd_Rows___init__
  f_Rows__by_labels : Addr
  fd_Rows__by_labels : FuncData
  F_Rows__by_labels : FnP K "_by_labels" "Rows._by_labels" s_Rows__by_labels f_Rows__by_labels fd_Rows__by_labels
  f_Rows__from_child : Addr
  fd_Rows__from_child : FuncData
  F_Rows__from_child : FnP K "_from_child" "Rows._from_child" s_Rows__from_child f_Rows__from_child fd_Rows__from_child
  f_Rows_do : Addr
  fd_Rows_do : FuncData
  F_Rows_do : FnP K "do" "Rows.do" s_Rows_do f_Rows_do fd_Rows_do
  f_Rows_whole : Addr
  fd_Rows_whole : FuncData
  F_Rows_whole : FnP K "whole" "Rows.whole" s_Rows_whole f_Rows_whole fd_Rows_whole
  f_term_of : Addr
  fd_term_of : FuncData
  F_term_of : FnP K "term_of" "term_of" s_term_of f_term_of fd_term_of
  g_term_of : mg "term_of" = some (.ref f_term_of)
  f__law_cell : Addr
  fd__law_cell : FuncData
  F__law_cell : FnP K "_law_cell" "_law_cell" s__law_cell f__law_cell fd__law_cell
  g__law_cell : mg "_law_cell" = some (.ref f__law_cell)
  f__law_mixed : Addr
  fd__law_mixed : FuncData
  F__law_mixed : FnP K "_law_mixed" "_law_mixed" s__law_mixed f__law_mixed fd__law_mixed
  g__law_mixed : mg "_law_mixed" = some (.ref f__law_mixed)
  f__law_digits : Addr
  fd__law_digits : FuncData
  F__law_digits : FnP K "_law_digits" "_law_digits" s__law_digits f__law_digits fd__law_digits
  g__law_digits : mg "_law_digits" = some (.ref f__law_digits)
  f__law_frame : Addr
  fd__law_frame : FuncData
  F__law_frame : FnP K "_law_frame" "_law_frame" s__law_frame f__law_frame fd__law_frame
  g__law_frame : mg "_law_frame" = some (.ref f__law_frame)
  f__law_put : Addr
  fd__law_put : FuncData
  F__law_put : FnP K "_law_put" "_law_put" s__law_put f__law_put fd__law_put
  g__law_put : mg "_law_put" = some (.ref f__law_put)
  f__law_put_join : Addr
  fd__law_put_join : FuncData
  F__law_put_join : FnP K "_law_put_join" "_law_put_join" s__law_put_join f__law_put_join fd__law_put_join
  g__law_put_join : mg "_law_put_join" = some (.ref f__law_put_join)
  f__law_term : Addr
  fd__law_term : FuncData
  F__law_term : FnP K "_law_term" "_law_term" s__law_term f__law_term fd__law_term
  g__law_term : mg "_law_term" = some (.ref f__law_term)
  f__law_turned : Addr
  fd__law_turned : FuncData
  F__law_turned : FnP K "_law_turned" "_law_turned" s__law_turned f__law_turned fd__law_turned
  g__law_turned : mg "_law_turned" = some (.ref f__law_turned)
  f_law : Addr
  fd_law : FuncData
  F_law : FnP K "law" "law" s_law f_law fd_law
  g_law : mg "law" = some (.ref f_law)
  C_Graph : Addr
  gC_Graph : mg "Graph" = some (.ref C_Graph)
  cl_Graph : Cls K C_Graph
  mk_Graph : Mk K C_Graph f_Graph___init__
  n_Graph_size : NoAttr K C_Graph "size"
  n_Graph_edges : NoAttr K C_Graph "edges"
  n_Graph__near : NoAttr K C_Graph "_near"
  C_Building : Addr
  gC_Building : mg "Building" = some (.ref C_Building)
  cl_Building : Cls K C_Building
  mk_Building : Mk K C_Building f_Building___init__
  n_Building__stack : NoAttr K C_Building "_stack"
  n_Building__becomes : NoAttr K C_Building "_becomes"
  n_Building__edges : NoAttr K C_Building "_edges"
  n_Building__tokens : NoAttr K C_Building "_tokens"
  n_Building_shown : NoAttr K C_Building "shown"
  n_Building__before : NoAttr K C_Building "_before"
  n_Building__numbers : NoAttr K C_Building "_numbers"
  m_Building_take : Meth K C_Building "take" f_Building_take
  m_Building__join : Meth K C_Building "_join" f_Building__join
  m_Building__changed : Meth K C_Building "_changed" f_Building__changed
  m_Building_number : Meth K C_Building "number" f_Building_number
  m_Building_finish : Meth K C_Building "finish" f_Building_finish
  C_Rows : Addr
  gC_Rows : mg "Rows" = some (.ref C_Rows)
  cl_Rows : Cls K C_Rows
  mk_Rows : Mk K C_Rows f_Rows___init__
  n_Rows__bags : NoAttr K C_Rows "_bags"
  n_Rows__labels : NoAttr K C_Rows "_labels"
  n_Rows__edges : NoAttr K C_Rows "_edges"
  n_Rows__children : NoAttr K C_Rows "_children"
  n_Rows__done : NoAttr K C_Rows "_done"
  m_Rows__by_labels : Meth K C_Rows "_by_labels" f_Rows__by_labels
  m_Rows__from_child : Meth K C_Rows "_from_child" f_Rows__from_child
  m_Rows_do : Meth K C_Rows "do" f_Rows_do
  m_Rows_whole : Meth K C_Rows "whole" f_Rows_whole
  z_isinstance : mg "isinstance" = none
  z_int : mg "int" = none
  z_bool : mg "bool" = none
  z_tuple : mg "tuple" = none
  z_str : mg "str" = none
  z_len : mg "len" = none
  z_range : mg "range" = none
  z_sorted : mg "sorted" = none
  z_all : mg "all" = none
  z_any : mg "any" = none
  z_max : mg "max" = none
  z_min : mg "min" = none
  z_list : mg "list" = none
  z_dict : mg "dict" = none
  z_enumerate : mg "enumerate" = none
  z_reversed : mg "reversed" = none
  i_MOST_VERTICES : ∃ t, mg "MOST_VERTICES" = some (.int 60 t)
  i_MOST_STEPS : ∃ t, mg "MOST_STEPS" = some (.int 20000 t)
  i_MOST_LABEL : ∃ t, mg "MOST_LABEL" = some (.int 12 t)
  a_LABELS : Addr
  g_LABELS : mg "LABELS" = some (.ref a_LABELS)
  k_LABELS : ∃ es n, KDict K w a_LABELS es n
  a_OPERANDS : Addr
  g_OPERANDS : mg "OPERANDS" = some (.ref a_OPERANDS)
  k_OPERANDS : ∃ es n, KDict K w a_OPERANDS es n
  v_LABELS_empty : ∃ u, PySem.W.nsIn K a_LABELS "empty" = some (some u) ∧ RelV (.int 0) u
  v_LABELS_new : ∃ u, PySem.W.nsIn K a_LABELS "new" = some (some u) ∧ RelV (.int 1) u
  v_LABELS_edge : ∃ u, PySem.W.nsIn K a_LABELS "edge" = some (some u) ∧ RelV (.int 2) u
  v_LABELS_forget : ∃ u, PySem.W.nsIn K a_LABELS "forget" = some (some u) ∧ RelV (.int 1) u
  v_LABELS_join : ∃ u, PySem.W.nsIn K a_LABELS "join" = some (some u) ∧ RelV (.int 0) u
  v_OPERANDS_empty : ∃ u, PySem.W.nsIn K a_OPERANDS "empty" = some (some u) ∧ RelV (.int 0) u
  v_OPERANDS_new : ∃ u, PySem.W.nsIn K a_OPERANDS "new" = some (some u) ∧ RelV (.int 1) u
  v_OPERANDS_edge : ∃ u, PySem.W.nsIn K a_OPERANDS "edge" = some (some u) ∧ RelV (.int 1) u
  v_OPERANDS_forget : ∃ u, PySem.W.nsIn K a_OPERANDS "forget" = some (some u) ∧ RelV (.int 1) u
  v_OPERANDS_join : ∃ u, PySem.W.nsIn K a_OPERANDS "join" = some (some u) ∧ RelV (.int 2) u
section
variable {K : PySem.W.Frag} {mg : Str → Option Value} {w : World}
theorem b_is_integer (T : Txt K mg w) : Binds K T.fd_is_integer ["value", "least", "most"] [] := T.F_is_integer.bindsN fun _ _ _ _ _ _ us hl => match us, hl with | [_, _, _], _ => rfl
theorem b_Graph___init__ (T : Txt K mg w) : Binds K T.fd_Graph___init__ ["self", "size", "edges"] [] := T.F_Graph___init__.bindsN fun _ _ _ _ _ _ us hl => match us, hl with | [_, _, _], _ => rfl
theorem b__is_edge (T : Txt K mg w) : Binds K T.fd__is_edge ["edge", "size"] [] := T.F__is_edge.bindsN fun _ _ _ _ _ _ us hl => match us, hl with | [_, _], _ => rfl
theorem b_same (T : Txt K mg w) : Binds K T.fd_same ["first", "second"] [] := T.F_same.bindsN fun _ _ _ _ _ _ us hl => match us, hl with | [_, _], _ => rfl
theorem b_is_step (T : Txt K mg w) : Binds K T.fd_is_step ["step", "k"] [] := T.F_is_step.bindsN fun _ _ _ _ _ _ us hl => match us, hl with | [_, _], _ => rfl
theorem b_next_frame (T : Txt K mg w) : Binds K T.fd_next_frame ["step", "frames"] [] := T.F_next_frame.bindsN fun _ _ _ _ _ _ us hl => match us, hl with | [_, _], _ => rfl
theorem b_frames_of (T : Txt K mg w) : Binds K T.fd_frames_of ["term", "k"] [] := T.F_frames_of.bindsN fun _ _ _ _ _ _ us hl => match us, hl with | [_, _], _ => rfl
theorem b_check_term (T : Txt K mg w) : Binds K T.fd_check_term ["term", "k"] [] := T.F_check_term.bindsN fun _ _ _ _ _ _ us hl => match us, hl with | [_, _], _ => rfl
theorem b_most_labels (T : Txt K mg w) : Binds K T.fd_most_labels ["term", "k"] [] := T.F_most_labels.bindsN fun _ _ _ _ _ _ us hl => match us, hl with | [_, _], _ => rfl
theorem b_operands (T : Txt K mg w) : Binds K T.fd_operands ["term", "k"] [] := T.F_operands.bindsN fun _ _ _ _ _ _ us hl => match us, hl with | [_, _], _ => rfl
theorem b_Building___init__ (T : Txt K mg w) : Binds K T.fd_Building___init__ ["self"] [] := T.F_Building___init__.bindsN fun _ _ _ _ _ _ us hl => match us, hl with | [_], _ => rfl
theorem b_Building_take (T : Txt K mg w) : Binds K T.fd_Building_take ["self", "step"] [] := T.F_Building_take.bindsN fun _ _ _ _ _ _ us hl => match us, hl with | [_, _], _ => rfl
theorem b_Building__join (T : Txt K mg w) : Binds K T.fd_Building__join ["self", "lower", "upper"] [] := T.F_Building__join.bindsN fun _ _ _ _ _ _ us hl => match us, hl with | [_, _, _], _ => rfl
theorem b_Building__changed (T : Txt K mg w) : Binds K T.fd_Building__changed ["self", "step", "graph"] [] := T.F_Building__changed.bindsN fun _ _ _ _ _ _ us hl => match us, hl with | [_, _, _], _ => rfl
theorem b_Building_number (T : Txt K mg w) : Binds K T.fd_Building_number ["self", "token"] [] := T.F_Building_number.bindsN fun _ _ _ _ _ _ us hl => match us, hl with | [_, _], _ => rfl
theorem b_Building_finish (T : Txt K mg w) : Binds K T.fd_Building_finish ["self", "k"] [] := T.F_Building_finish.bindsN fun _ _ _ _ _ _ us hl => match us, hl with | [_, _], _ => rfl
theorem b_built (T : Txt K mg w) : Binds K T.fd_built ["term", "k"] [] := T.F_built.bindsN fun _ _ _ _ _ _ us hl => match us, hl with | [_, _], _ => rfl
theorem b_made (T : Txt K mg w) : Binds K T.fd_made ["term", "k"] [] := T.F_made.bindsN fun _ _ _ _ _ _ us hl => match us, hl with | [_, _], _ => rfl
theorem b__is_tuple_of_vertices (T : Txt K mg w) : Binds K T.fd__is_tuple_of_vertices ["value", "size"] [] := T.F__is_tuple_of_vertices.bindsN fun _ _ _ _ _ _ us hl => match us, hl with | [_, _], _ => rfl
theorem b__has_form (T : Txt K mg w) : Binds K T.fd__has_form ["graph", "bags", "parents"] [] := T.F__has_form.bindsN fun _ _ _ _ _ _ us hl => match us, hl with | [_, _, _], _ => rfl
theorem b__tops (T : Txt K mg w) : Binds K T.fd__tops ["bags", "parents", "vertex"] [] := T.F__tops.bindsN fun _ _ _ _ _ _ us hl => match us, hl with | [_, _, _], _ => rfl
theorem b_fault (T : Txt K mg w) : Binds K T.fd_fault ["graph", "bags", "parents"] [] := T.F_fault.bindsN fun _ _ _ _ _ _ us hl => match us, hl with | [_, _, _], _ => rfl
theorem b_width_of (T : Txt K mg w) : Binds K T.fd_width_of ["bags"] [] := T.F_width_of.bindsN fun _ _ _ _ _ _ us hl => match us, hl with | [_], _ => rfl
theorem b_bags_of (T : Txt K mg w) : Binds K T.fd_bags_of ["term", "k"] [] := T.F_bags_of.bindsN fun _ _ _ _ _ _ us hl => match us, hl with | [_, _], _ => rfl
theorem b__labels (T : Txt K mg w) : Binds K T.fd__labels ["bags", "parents"] [] := T.F__labels.bindsN fun _ _ _ _ _ _ us hl => match us, hl with | [_, _], _ => rfl
theorem b_Rows___init__ (T : Txt K mg w) : Binds K T.fd_Rows___init__ ["self", "graph", "bags", "parents"] [] := T.F_Rows___init__.bindsN fun _ _ _ _ _ _ us hl => match us, hl with | [_, _, _, _], _ => rfl
theorem b_Rows__by_labels (T : Txt K mg w) : Binds K T.fd_Rows__by_labels ["self", "vertices"] [] := T.F_Rows__by_labels.bindsN fun _ _ _ _ _ _ us hl => match us, hl with | [_, _], _ => rfl
theorem b_Rows__from_child (T : Txt K mg w) : Binds K T.fd_Rows__from_child ["self", "at", "child"] [] := T.F_Rows__from_child.bindsN fun _ _ _ _ _ _ us hl => match us, hl with | [_, _, _], _ => rfl
theorem b_Rows_do (T : Txt K mg w) : Binds K T.fd_Rows_do ["self", "at"] [] := T.F_Rows_do.bindsN fun _ _ _ _ _ _ us hl => match us, hl with | [_, _], _ => rfl
theorem b_Rows_whole (T : Txt K mg w) : Binds K T.fd_Rows_whole ["self"] [] := T.F_Rows_whole.bindsN fun _ _ _ _ _ _ us hl => match us, hl with | [_], _ => rfl
theorem b_term_of (T : Txt K mg w) : Binds K T.fd_term_of ["graph", "bags", "parents", "k"] [] := T.F_term_of.bindsN fun _ _ _ _ _ _ us hl => match us, hl with | [_, _, _, _], _ => rfl
theorem b__law_cell (T : Txt K mg w) : Binds K T.fd__law_cell ["_law_script", "_law_k"] [] := T.F__law_cell.bindsN fun _ _ _ _ _ _ us hl => match us, hl with | [_, _], _ => rfl
theorem b__law_mixed (T : Txt K mg w) : Binds K T.fd__law_mixed ["_law_cell_here", "_law_k"] [] := T.F__law_mixed.bindsN fun _ _ _ _ _ _ us hl => match us, hl with | [_, _], _ => rfl
theorem b__law_digits (T : Txt K mg w) : Binds K T.fd__law_digits ["_law_cell_here", "_law_count", "_law_many"] [] := T.F__law_digits.bindsN fun _ _ _ _ _ _ us hl => match us, hl with | [_, _, _], _ => rfl
theorem b__law_frame (T : Txt K mg w) : Binds K T.fd__law_frame ["_law_step", "_law_frames"] [] := T.F__law_frame.bindsN fun _ _ _ _ _ _ us hl => match us, hl with | [_, _], _ => rfl
theorem b__law_put (T : Txt K mg w) : Binds K T.fd__law_put ["_law_steps", "_law_stack", "_law_step"] [] := T.F__law_put.bindsN fun _ _ _ _ _ _ us hl => match us, hl with | [_, _, _], _ => rfl
theorem b__law_put_join (T : Txt K mg w) : Binds K T.fd__law_put_join ["_law_steps", "_law_stack", "_law_k"] [] := T.F__law_put_join.bindsN fun _ _ _ _ _ _ us hl => match us, hl with | [_, _, _], _ => rfl
theorem b__law_term (T : Txt K mg w) : Binds K T.fd__law_term ["_law_cell_here", "_law_k", "_law_most"] [] := T.F__law_term.bindsN fun _ _ _ _ _ _ us hl => match us, hl with | [_, _, _], _ => rfl
theorem b__law_turned (T : Txt K mg w) : Binds K T.fd__law_turned ["_law_graph", "_law_order"] [] := T.F__law_turned.bindsN fun _ _ _ _ _ _ us hl => match us, hl with | [_, _], _ => rfl
theorem b_law (T : Txt K mg w) : Binds K T.fd_law ["_law_script"] [] := T.F_law.bindsN fun _ _ _ _ _ _ us hl => match us, hl with | [_], _ => rfl
end
end SW


set_option maxRecDepth 100000
set_option maxHeartbeats 2000000
/-! Rules whose readings do not name the written part (they stand in comprehensions too); loops. -/
namespace SW
open PySem PySem.Spec PyProof.Rows L2
def Sq (H : Hp) (p : Addr) (xs : List V) : Prop := H p = some (.lst xs) ∨ H p = some (.tup xs)
theorem Sq.k {K : PySem.W.Frag} {H : Hp} {p : Addr} {xs : List V} (h : Sq H p xs) : SqL K H p xs ∨ SqT K H p xs := h.elim (fun z => .inl (SqL.of z)) fun z => .inr (SqT.of z)
def rIx : R2 := fun x y H Q => ∃ p xs i v, x = .ref p ∧ y = .int i ∧ Sq H p xs ∧ atI xs i = some v ∧ Q v H
def rLen : List V → Hp → VK → Prop := fun vs H Q => ∃ p xs, vs = [.ref p] ∧ Sq H p xs ∧ Q (.int xs.length) H
def rTupOf : List V → Hp → VK → Prop := fun vs H Q => ∃ p xs, vs = [.ref p] ∧ H p = some (.lst xs) ∧ ∀ l, H l = none → Q (.ref l) (upd H l (.tup xs))
def rLstOf : List V → Hp → VK → Prop := fun vs H Q => ∃ p xs, vs = [.ref p] ∧ Sq H p xs ∧ ∀ l, H l = none → Q (.ref l) (upd H l (.lst xs))
def rSlTup : V → Option Int → Option Int → Hp → VK → Prop := fun x lo hi H Q => ∃ a xs, x = .ref a ∧ H a = some (.tup xs) ∧ ¬ (HT.sIx xs.length 0 lo = 0 ∧ HT.sIx xs.length xs.length hi = xs.length) ∧ ∀ p, H p = none → Q (.ref p) (upd H p (.tup (cutV xs lo hi)))
def rSlLst : V → Option Int → Option Int → Hp → VK → Prop := fun x lo hi H Q => ∃ a xs, x = .ref a ∧ H a = some (.lst xs) ∧ ∀ p, H p = none → Q (.ref p) (upd H p (.lst (cutV xs lo hi)))
def rCatT : R2 := fun x y H Q => ∃ a b xs ys, x = .ref a ∧ y = .ref b ∧ H a = some (.tup xs) ∧ H b = some (.tup ys) ∧ xs.length + ys.length ≤ sizeLine ∧ ∀ p H', Same H H' → H' p = some (.tup (xs ++ ys)) → Q (.ref p) H'
def rAnyL : List V → Hp → VK → Prop := fun vs H Q => ∃ (a : Addr) (bs : List Bool), vs = [V.ref a] ∧ H a = some (.lst (bs.map V.bl)) ∧ Q (.bl (bs.any id)) H
def rAllL : List V → Hp → VK → Prop := fun vs H Q => ∃ (a : Addr) (bs : List Bool), vs = [V.ref a] ∧ H a = some (.lst (bs.map V.bl)) ∧ Q (.bl (bs.all id)) H
def rMaxL : List V → Hp → VK → Prop := fun vs H Q => ∃ (a : Addr) (ns : List Int), vs = [V.ref a] ∧ H a = some (.lst (ns.map V.int)) ∧ 0 < ns.length ∧ ∀ m, m ∈ ns → (∀ y, y ∈ ns → y ≤ m) → Q (.int m) H
section
variable {X : Cx}
theorem op_ix : IxR X rIx := by
  intro value slice pins s σ H x y v u Q I rx ry h hs
  obtain ⟨p, xs, i, z, rfl, rfl, hq, he, q⟩ := h
  rcases hq with hq | hq
  · exact ix_list value slice pins s σ H _ _ v u Q I rx ry ⟨p, xs, i, z, rfl, rfl, SqL.of hq, he, q⟩ hs
  · exact ix_tup value slice pins s σ H _ _ v u Q I rx ry ⟨p, xs, i, z, rfl, rfl, SqT.of hq, he, q⟩ hs
theorem cr_len : CallR X (.builtin "len") rLen := by
  intro pins s σ H xs us Q I r h
  obtain ⟨p, ys, rfl, hq, q⟩ := h
  exact call_len_seq pins s σ H _ us Q I r ⟨p, ys, rfl, hq.k, q⟩
theorem cr_tup : CallR X (.type "tuple") rTupOf := by
  intro pins s σ H xs us Q I r h
  obtain ⟨p, ys, rfl, hq, q⟩ := h
  exact call_tuple_of pins s σ H _ us Q I r ⟨p, ys, rfl, .inl ⟨SqL.of hq, q⟩⟩
theorem cr_lst : CallR X (.type "list") rLstOf := by
  intro pins s σ H xs us Q I r h
  obtain ⟨p, ys, rfl, hq, q⟩ := h
  exact call_list_of pins s σ H _ us Q I r ⟨p, ys, rfl, hq.k, q⟩
theorem sl_t : SlR X rSlTup := by
  intro pins s σ H x v vl vu lo hi sl Q I rx hs pl pu h
  obtain ⟨a, xs, rfl, hx, hw, q⟩ := h
  exact sl_tup pins s σ H _ v vl vu lo hi sl Q I rx hs pl pu ⟨a, xs, rfl, SqT.of hx, hw, q⟩
theorem sl_l : SlR X rSlLst := by
  intro pins s σ H x v vl vu lo hi sl Q I rx hs pl pu h
  obtain ⟨a, xs, rfl, hx, q⟩ := h
  exact sl_list pins s σ H _ v vl vu lo hi sl Q I rx hs pl pu ⟨a, xs, rfl, SqL.of hx, q⟩
theorem op_catTup : OpR X (binaryOp .Add) rCatT := by
  intro pins s σ H x y v u Q I rx ry h
  obtain ⟨a, b, xs, ys, rfl, rfl, ha, hb, hz, q⟩ := h
  refine op_catA pins s σ H _ _ v u Q I rx ry ⟨a, b, xs, ys, rfl, rfl, SqT.of ha, SqT.of hb, hz, fun e => ?_, fun _ e => ?_, fun _ _ p hp => ?_⟩
  · subst e; exact q b H (Same.refl H) (by simpa using hb)
  · subst e; exact q a H (Same.refl H) (by simpa using ha)
  · exact q p _ (same_new hp) upd_same
theorem cr_anyL (hc : X.calm = true) : CallR X (.builtin "any") rAnyL := by
  intro pins s σ H xs us Q I r h
  obtain ⟨a, bs, rfl, hq, q⟩ := h
  exact cr_any hc pins s σ H _ us Q I r ⟨a, bs, rfl, SqL.of hq, q⟩
theorem cr_allL (hc : X.calm = true) : CallR X (.builtin "all") rAllL := by
  intro pins s σ H xs us Q I r h
  obtain ⟨a, bs, rfl, hq, q⟩ := h
  exact cr_all hc pins s σ H _ us Q I r ⟨a, bs, rfl, SqL.of hq, q⟩
theorem cr_maxL (hc : X.calm = true) : CallR X (.builtin "max") rMaxL := by
  intro pins s σ H xs us Q I r h
  obtain ⟨a, ns, rfl, hq, hne, q⟩ := h
  exact cr_max hc pins s σ H _ us Q I r ⟨a, ns, rfl, SqL.of hq, hne, q⟩
/-- e.f of an instance of C -/
def tF (C : Addr) (ta : TE) (f : Str) : TE := fun σ H Q => ta σ H fun x H1 => ∃ a dx fs v, x = .ref a ∧ H1 a = some (.ins C dx fs) ∧ fs.lookup f = some v ∧ Q v H1
theorem pe_f {o : Expr} {f : Str} {pos : Pos} {ta : TE} {C : Addr} (he : PE X o ta) (c : Cls X.K C) (n : NoAttr X.K C f) (hb : attributeBase o f X.env (eval o X.env) = eval o X.env := by rfl) : PE X (.Attribute o f pos) (tF C ta f) := by
  refine ⟨fun pins s σ H Q I h => ?_⟩
  refine attr_of hb (thn (he.run pins s σ H _ I h) fun u s1 ⟨x, H1, I1, rx, a, dx, fs, v, ex, ea, l, q⟩ => ?_)
  subst ex
  obtain rfl : u = Value.ref a := rx
  exact getattr_ok I1 ea c n l fun u' s2 I2 ru => ⟨v, H1, I2, ru, q⟩
end
/-! ### lists of data by comprehensions -/
/-- all of H1 stands, the new list at D is ds -/
def PL (H1 : Hp) (D : Addr) (ds : List PyData) (H : Hp) : Prop := Same H1 H ∧ LD H D ds
theorem PL.add {H1 H H4 : Hp} {D : Addr} {ds : List PyData} {y : V} {d : PyData} (p : PL H1 D ds H) (hD : H1 D = none) (s : Same H H4) (h : TD H4 y d) (hz : ds.length < sizeLine) :
    ∃ acc, H4 D = some (.lst acc) ∧ acc.length < sizeLine ∧ PL H1 D (ds ++ [d]) (upd H4 D (.lst (acc ++ [y]))) := by
  obtain ⟨p1, acc, p2, p3⟩ := p
  have e := s _ _ p2
  have m : SameT H4 (upd H4 D (.lst (acc ++ [y]))) := SameT.put e (fun _ z => by cases z)
  refine ⟨acc, e, by rw [p3.length]; exact hz, Same.put (p1.trans s) hD, _, upd_same, ?_⟩
  exact TDs.snoc ((p3.mono (Same.t s)).mono m) (h.mono m)
theorem PL.keep {H1 H H4 : Hp} {D : Addr} {ds : List PyData} (p : PL H1 D ds H) (s : Same H H4) : PL H1 D ds H4 := ⟨p.1.trans s, p.2.same s⟩
theorem lc_td {J : It} {n : Nat} {G : Hp → Prop} {Y : Nat → Hp → V → Hp → Prop} (w : Walk J n G Y) {g : TG} {tt : TT} {te : TE} {vs : List Nat} {σ : L2.St} {H1 : Hp} {D : Addr} {Qd : Hp → Prop} (hD : H1 D = none) (out : Nat → List PyData) (h0 : out 0 = [])
    (hG : ∀ H, Same H1 H → G H)
    (hs : ∀ i x H H', i < n → PL H1 D (out i) H → Y i H x H' → g x (wipe σ vs) H' fun σ2 H2 => wipe σ2 vs = wipe σ vs ∧ tt σ2 H2 fun b H3 =>
      if b = true then te σ2 H3 fun y H4 => ∃ acc, H4 D = some (.lst acc) ∧ acc.length < sizeLine ∧ PL H1 D (out (i + 1)) (upd H4 D (.lst (acc ++ [y]))) else PL H1 D (out (i + 1)) H3) (hd : ∀ H, PL H1 D (out n) H → Qd H) :
    ∃ W : Nat → Nat → Hp → Prop, (∃ m, W 0 m (upd H1 D (.lst []))) ∧ ∀ i m H, W i m H →
      (J.stop i H ∧ Qd H) ∨ (J.go i H ∧ ∃ Nx : Hp → Prop, (∀ H', Nx H' → ∃ m', m' < m ∧ W (i + 1) m' H') ∧ ∀ x H', J.yld i H x H' → g x (wipe σ vs) H' fun σ2 H2 => wipe σ2 vs = wipe σ vs ∧ tt σ2 H2 fun b H3 =>
        if b = true then te σ2 H3 fun y H4 => ∃ acc, H4 D = some (.lst acc) ∧ acc.length < sizeLine ∧ Nx (upd H4 D (.lst (acc ++ [y]))) else Nx H3) :=
  lc_it w (fun i H => PL H1 D (out i) H) ⟨same_new hD, [], upd_same, by rw [h0]; exact .nil⟩ (fun i H _ p => hG H p.1) hs hd
/-- f of those of the first i items that p lets in -/
def outF {α : Type} (l : List α) (p : α → Bool) (f : α → PyData) (i : Nat) : List PyData := ((l.take i).filter p).map f
theorem outF_0 {α : Type} {l : List α} {p : α → Bool} {f : α → PyData} : outF l p f 0 = [] := by simp [outF]
theorem outF_all {α : Type} {l : List α} {p : α → Bool} {f : α → PyData} : outF l p f l.length = (l.filter p).map f := by simp [outF]
theorem outF_yes {α : Type} {l : List α} {p : α → Bool} {f : α → PyData} {i : Nat} {x : α} (h : l[i]? = some x) (hp : p x = true) : outF l p f (i + 1) = outF l p f i ++ [f x] := by
  unfold outF
  rw [List.take_add_one, h]
  simp [hp]
theorem outF_no {α : Type} {l : List α} {p : α → Bool} {f : α → PyData} {i : Nat} {x : α} (h : l[i]? = some x) (hp : p x = false) : outF l p f (i + 1) = outF l p f i := by
  unfold outF
  rw [List.take_add_one, h]
  simp [hp]
theorem outF_len {α : Type} {l : List α} {p : α → Bool} {f : α → PyData} {i : Nat} : (outF l p f i).length ≤ l.length := by
  unfold outF
  rw [List.length_map]
  exact Nat.le_trans (List.length_filter_le _ _) (by rw [List.length_take]; omega)
/-- no filter -/
def outM {α : Type} (l : List α) (f : α → PyData) (i : Nat) : List PyData := (l.take i).map f
theorem outM_0 {α : Type} {l : List α} {f : α → PyData} : outM l f 0 = [] := by simp [outM]
theorem outM_all {α : Type} {l : List α} {f : α → PyData} : outM l f l.length = l.map f := by simp [outM]
theorem outM_yes {α : Type} {l : List α} {f : α → PyData} {i : Nat} {x : α} (h : l[i]? = some x) : outM l f (i + 1) = outM l f i ++ [f x] := by
  unfold outM
  rw [List.take_add_one, h]
  simp
theorem outM_len {α : Type} {l : List α} {f : α → PyData} {i : Nat} : (outM l f i).length ≤ l.length := by
  unfold outM
  rw [List.length_map, List.length_take]; omega
end SW


set_option maxRecDepth 100000
set_option maxHeartbeats 2000000
/-! Dicts of numbers; the tables LABELS, OPERANDS; steps. -/
namespace SW
open PySem PySem.Spec PyProof.Rows L2
/-! ### steps -/
def wd : SWM.Stp → Str
  | .empty => "empty"
  | .new _ => "new"
  | .edge _ _ => "edge"
  | .forget _ => "forget"
  | .join => "join"
def la : SWM.Stp → List Nat
  | .empty => []
  | .new i => [i]
  | .edge i j => [i, j]
  | .forget i => [i]
  | .join => []
theorem dS_eq (s : SWM.Stp) : dS s = .tuple (.str (wd s) :: (la s).map dN) := by cases s <;> rfl
theorem ni_S (s : SWM.Stp) : (dS s).canLay0 = true ∧ (dS s).depth ≤ 1 := by
  cases s <;> simp [dS, dN, PyData.canLay0, PyData.canLayAll0, PyData.depth, PyData.depthAll] <;> decide +kernel
theorem ni_T (T : List SWM.Stp) : (dT T).canLay0 = true ∧ (dT T).depth ≤ 2 := (niceAll_map ni_S _).tup
theorem TD.stepI {H : Hp} {v : V} {s : SWM.Stp} (h : TD H v (dS s)) : ∃ a, v = .ref a ∧ H a = some (.tup (.str (wd s) :: (la s).map vN)) := by
  rw [dS_eq] at h
  obtain ⟨a, xs, e, h1, h2⟩ := h.tupI
  cases h2 with
  | cons q1 q2 =>
    rw [q1.strI, q2.nats] at h1
    exact ⟨a, e, h1⟩
theorem TD.ofStep {H : Hp} {a : Addr} {s : SWM.Stp} (h : H a = some (.tup (.str (wd s) :: (la s).map vN))) : TD H (.ref a) (dS s) := by
  rw [dS_eq]
  exact .tup h (.cons (.str _) (.ofNats _))
section
variable {X : Cx}
theorem ix_kd {d : Addr} (D : ∃ es n, KDict X.K X.w d es n) : IxR X (fun x y H Q => ∃ (z : Str) (u0 : Value) (v0 : V), x = .ref d ∧ y = .str z ∧ PySem.W.nsIn X.K d z = some (some u0) ∧ RelV v0 u0 ∧ Q v0 H) := by
  intro value slice pins s σ H x y v u Q I rx ry h hs
  obtain ⟨es, n, D⟩ := D
  have h0 := h
  obtain ⟨z, u0, v0, rfl, rfl, e, r, q⟩ := h
  have rx2 : v = Value.ref d := rx
  subst rx2
  exact tail_any (kd_type D I) PySem.F.slot_dict_getitem.lookup (op_item_kd D pins s σ H _ _ _ u Q I rx ry h0) hs
theorem ix_OPERANDS (T : Txt X.K X.mg X.w) : IxR X (fun x y H Q => ∃ s : SWM.Stp, x = .ref T.a_OPERANDS ∧ y = .str (wd s) ∧ Q (vN (SWM.ar s)) H) := by
  intro value slice pins s σ H x y v u Q I rx ry h hs
  obtain ⟨st, rfl, rfl, q⟩ := h
  refine ix_kd T.k_OPERANDS value slice pins s σ H _ _ v u Q I rx ry ?_ hs
  cases st
  · obtain ⟨u, h1, h2⟩ := T.v_OPERANDS_empty
    exact ⟨_, u, _, rfl, rfl, h1, h2, q⟩
  · obtain ⟨u, h1, h2⟩ := T.v_OPERANDS_new
    exact ⟨_, u, _, rfl, rfl, h1, h2, q⟩
  · obtain ⟨u, h1, h2⟩ := T.v_OPERANDS_edge
    exact ⟨_, u, _, rfl, rfl, h1, h2, q⟩
  · obtain ⟨u, h1, h2⟩ := T.v_OPERANDS_forget
    exact ⟨_, u, _, rfl, rfl, h1, h2, q⟩
  · obtain ⟨u, h1, h2⟩ := T.v_OPERANDS_join
    exact ⟨_, u, _, rfl, rfl, h1, h2, q⟩
theorem ix_LABELS (T : Txt X.K X.mg X.w) : IxR X (fun x y H Q => ∃ s : SWM.Stp, x = .ref T.a_LABELS ∧ y = .str (wd s) ∧ Q (vN (la s).length) H) := by
  intro value slice pins s σ H x y v u Q I rx ry h hs
  obtain ⟨st, rfl, rfl, q⟩ := h
  refine ix_kd T.k_LABELS value slice pins s σ H _ _ v u Q I rx ry ?_ hs
  cases st
  · obtain ⟨u, h1, h2⟩ := T.v_LABELS_empty
    exact ⟨_, u, _, rfl, rfl, h1, h2, q⟩
  · obtain ⟨u, h1, h2⟩ := T.v_LABELS_new
    exact ⟨_, u, _, rfl, rfl, h1, h2, q⟩
  · obtain ⟨u, h1, h2⟩ := T.v_LABELS_edge
    exact ⟨_, u, _, rfl, rfl, h1, h2, q⟩
  · obtain ⟨u, h1, h2⟩ := T.v_LABELS_forget
    exact ⟨_, u, _, rfl, rfl, h1, h2, q⟩
  · obtain ⟨u, h1, h2⟩ := T.v_LABELS_join
    exact ⟨_, u, _, rfl, rfl, h1, h2, q⟩
theorem op_notInLABELS (T : Txt X.K X.mg X.w) : OpR X (compareOp .NotIn) (fun x y H Q => ∃ s : SWM.Stp, x = .str (wd s) ∧ y = .ref T.a_LABELS ∧ Q (.bl false) H) := by
  intro pins s σ H x y v u Q I rx ry h
  obtain ⟨st, rfl, rfl, q⟩ := h
  obtain ⟨es, n, D⟩ := T.k_LABELS
  refine op_notIn_kd D pins s σ H _ _ v u Q I rx ry ?_
  cases st
  · obtain ⟨u, h1, h2⟩ := T.v_LABELS_empty
    exact ⟨_, some u, rfl, rfl, h1, q⟩
  · obtain ⟨u, h1, h2⟩ := T.v_LABELS_new
    exact ⟨_, some u, rfl, rfl, h1, q⟩
  · obtain ⟨u, h1, h2⟩ := T.v_LABELS_edge
    exact ⟨_, some u, rfl, rfl, h1, q⟩
  · obtain ⟨u, h1, h2⟩ := T.v_LABELS_forget
    exact ⟨_, some u, rfl, rfl, h1, q⟩
  · obtain ⟨u, h1, h2⟩ := T.v_LABELS_join
    exact ⟨_, some u, rfl, rfl, h1, q⟩
end
/-! ### dicts of numbers -/
def kI (n : Nat) : Key := .inl (n : Int)
theorem kI_inj {a b : Nat} : kI a = kI b ↔ a = b := by
  constructor
  · intro h
    have := Sum.inl.inj h
    omega
  · intro h; rw [h]
def kN (m : List (Nat × Nat)) : List (Key × V) := m.map fun p => (kI p.1, vN p.2)
theorem kN_len (m : List (Nat × Nat)) : (kN m).length = m.length := by simp [kN]
theorem valV_kN (m : List (Nat × Nat)) (i : Nat) : valV (kN m) (kI i) = (SWM.lk m i).map vN := by
  induction m with
  | nil => rfl
  | cons p r ih =>
    show valV ((kI p.1, vN p.2) :: kN r) (kI i) = _
    unfold SWM.lk
    by_cases h : p.1 = i
    · rw [if_pos h, valV_pos (by rw [h])]; rfl
    · rw [if_neg h, valV_neg (fun z => h (kI_inj.mp z)), ih]
theorem putK_nil {k : Key} {v : V} : putK ([] : List (Key × V)) k v = [(k, v)] := by simp [putK]
theorem any_kN (m : List (Nat × Nat)) (i : Nat) : ((kN m).any fun kv => decide (kv.1 = kI i)) = decide (i ∈ m.map (·.1)) := by
  induction m with
  | nil => simp [kN]
  | cons p r ih =>
    show ((kI p.1, vN p.2) :: kN r).any _ = _
    rw [List.any_cons, ih]
    by_cases h : p.1 = i
    · simp [h]
    · have h' : ¬ i = p.1 := fun z => h z.symm
      simp [h, h', kI_inj]
theorem put_map {m : List (Nat × Nat)} {i v : Nat} (nd : (m.map (·.1)).Nodup) (h : i ∈ m.map (·.1)) : SWM.put m i v = m.map fun p => if p.1 = i then (p.1, v) else p := by
  induction m with
  | nil => simp at h
  | cons p r ih =>
    rw [List.map_cons] at nd h ⊢
    obtain ⟨n1, n2⟩ := List.nodup_cons.mp nd
    unfold SWM.put
    by_cases e : p.1 = i
    · rw [if_pos e, if_pos e]
      have z : (r.map fun p => if p.1 = i then (p.1, v) else p) = r := by
        refine (List.map_congr_left (g := id) fun q hq => ?_).trans (List.map_id _)
        have : ¬ q.1 = i := fun z => n1 (by rw [e, ← z]; exact List.mem_map_of_mem hq)
        rw [if_neg this]; rfl
      rw [z, e]
    · have h2 : i ∈ r.map (·.1) := by
        rcases List.mem_cons.mp h with z | z
        · exact absurd z.symm e
        · exact z
      rw [if_neg e, if_neg e, ih n2 h2]
theorem putK_kN {m : List (Nat × Nat)} (nd : (m.map (·.1)).Nodup) (i v : Nat) : putK (kN m) (kI i) (vN v) = kN (SWM.put m i v) := by
  unfold putK
  rw [any_kN]
  by_cases h : i ∈ m.map (·.1)
  · rw [if_pos (decide_eq_true h), put_map nd h]
    unfold kN
    rw [List.map_map, List.map_map]
    refine List.map_congr_left fun p _ => ?_
    show (if kI p.1 = kI i then _ else _) = _
    by_cases e : p.1 = i
    · rw [if_pos (by rw [e])]
      simp [e]
    · rw [if_neg (fun z => e (kI_inj.mp z))]
      simp [e]
  · rw [if_neg (by simpa using h), SWM.put_new h]
    simp [kN]
theorem dropK_kN (m : List (Nat × Nat)) (i : Nat) : dropK (kN m) (kI i) = kN (SWM.del m i) := by
  unfold dropK kN SWM.del
  rw [List.filter_map]
  congr 1
  refine List.filter_congr fun p _ => ?_
  simp [kI_inj]
theorem put_nodup {m : List (Nat × Nat)} (nd : (m.map (·.1)).Nodup) (i v : Nat) : ((SWM.put m i v).map (·.1)).Nodup := by
  by_cases h : i ∈ m.map (·.1)
  · rw [put_map nd h, List.map_map]
    have e : ((fun p : Nat × Nat => p.1) ∘ fun p => if p.1 = i then (p.1, v) else p) = fun p => p.1 := by
      funext p; show (if p.1 = i then (p.1, v) else p).1 = p.1; split <;> rfl
    rw [e]; exact nd
  · rw [SWM.put_new h, List.map_append, List.nodup_append]
    refine ⟨nd, by simp, fun a ha b hb => ?_⟩
    have : b = i := by simpa using hb
    rw [this]; intro z; exact h (z ▸ ha)
theorem put_len (m : List (Nat × Nat)) (i v : Nat) : (SWM.put m i v).length ≤ m.length + 1 := by
  induction m with
  | nil => simp [SWM.put]
  | cons p r ih =>
    unfold SWM.put
    split
    · simp
    · simp only [List.length_cons]; omega
theorem del_nodup {m : List (Nat × Nat)} (nd : (m.map (·.1)).Nodup) (i : Nat) : ((SWM.del m i).map (·.1)).Nodup := nd.sublist ((SWM.del_sub m i).map _)
end SW


set_option maxRecDepth 100000
set_option maxHeartbeats 2000000
/-! Small lemmas of the walks: places, slices, tests, lists of bools. -/
namespace SW
open PySem PySem.Spec PyProof.Rows L2
theorem at0 {α : Type} {x : α} {r : List α} : atI (x :: r) (0 : Int) = some x := atI_nat (j := 0) rfl
theorem at1 {α : Type} {x y : α} {r : List α} : atI (x :: y :: r) (1 : Int) = some y := atI_nat (j := 1) rfl
theorem at2 {α : Type} {x y z : α} {r : List α} : atI (x :: y :: z :: r) (2 : Int) = some z := atI_nat (j := 2) rfl
theorem atN {α : Type} {xs : List α} {j : Nat} {i : Int} {v : α} (e : i = (j : Int)) (h : xs[j]? = some v) : atI xs i = some v := by rw [e]; exact atI_nat h
theorem atL {α : Type} {xs : List α} {v : α} (h : xs.getLast? = some v) : atI xs (-1 : Int) = some v := by
  obtain ⟨ys, rfl⟩ := List.getLast?_eq_some_iff.mp h
  exact atI_last ys v
theorem vne {i j : Int} (h : i ≠ j) : decide (V.int i = V.int j) = false := decide_eq_false fun z => h (V.int.inj z)
theorem veq {i j : Int} (h : i = j) : decide (V.int i = V.int j) = true := decide_eq_true (by rw [h])
theorem vdec {i j : Nat} : decide (vN i = vN j) = decide (i = j) := decide_eq_decide.mpr ⟨fun h => by have := V.int.inj h; omega, fun h => by rw [h]⟩
theorem sne {x y : Str} (h : x ≠ y) : decide (V.str x = V.str y) = false := decide_eq_false fun z => h (V.str.inj z)
theorem seq {x y : Str} (h : x = y) : decide (V.str x = V.str y) = true := decide_eq_true (by rw [h])
theorem cut_from (xs : List V) (a : Nat) {i : Int} (e : i = (a : Int)) : cutV xs (some i) none = xs.drop a := by
  subst e
  unfold cutV
  rw [HT.sIx_nat, HT.sIx_none]
  by_cases h : a ≤ xs.length
  · rw [Nat.min_eq_left h, List.take_of_length_le (by rw [List.length_drop]; omega)]
  · rw [Nat.min_eq_right (by omega), List.drop_of_length_le (Nat.le_refl _), List.drop_of_length_le (by omega)]
    simp
theorem cut_to (xs : List V) (b : Nat) {i : Int} (e : i = (b : Int)) : cutV xs none (some i) = xs.take b := by
  subst e
  unfold cutV
  rw [HT.sIx_nat, HT.sIx_none, List.drop_zero, Nat.sub_zero]
  by_cases h : b ≤ xs.length
  · rw [Nat.min_eq_left h]
  · rw [Nat.min_eq_right (by omega), List.take_of_length_le (Nat.le_refl _), List.take_of_length_le (by omega)]
theorem cut_mid (xs : List V) (a b : Nat) {i j : Int} (e : i = (a : Int)) (f : j = (b : Int)) : cutV xs (some i) (some j) = (xs.drop a).take (b - a) := by
  subst e f
  unfold cutV
  rw [HT.sIx_nat, HT.sIx_nat]
  by_cases h : a ≤ xs.length
  · rw [Nat.min_eq_left h]
    by_cases h2 : b ≤ xs.length
    · rw [Nat.min_eq_left h2]
    · rw [Nat.min_eq_right (by omega), List.take_of_length_le (by rw [List.length_drop]; omega), List.take_of_length_le (by rw [List.length_drop]; omega)]
  · rw [Nat.min_eq_right (by omega : xs.length ≤ a), List.drop_of_length_le (Nat.le_refl _), List.drop_of_length_le (by omega)]
    simp
theorem part_of {n a : Nat} {i : Int} (e : i = (a : Int)) (ha : 0 < a) (hn : 0 < n) {z : Prop} : ¬ (HT.sIx n 0 (some i) = 0 ∧ z) := by
  subst e
  rintro ⟨h, _⟩
  rw [HT.sIx_nat] at h
  omega
theorem TDs.bools {H : Hp} : ∀ {bs : List Bool} {vs : List V}, TDs H vs (bs.map PyData.bool) → vs = bs.map V.bl
  | [], _, h => by cases h; rfl
  | b :: r, _, h => by
    cases h with
    | cons h1 h2 =>
      cases h1
      rw [TDs.bools h2]; rfl
theorem PL.bools {H1 H : Hp} {D : Addr} {bs : List Bool} (p : PL H1 D (bs.map PyData.bool) H) : H D = some (.lst (bs.map V.bl)) := by
  obtain ⟨_, vs, h1, h2⟩ := p
  rw [h2.bools] at h1
  exact h1
theorem PL.nats {H1 H : Hp} {D : Addr} {ns : List Nat} (p : PL H1 D (ns.map dN) H) : H D = some (.lst (ns.map vN)) := by
  obtain ⟨_, vs, h1, h2⟩ := p
  rw [h2.nats] at h1
  exact h1
theorem LD.nats {H : Hp} {D : Addr} {ns : List Nat} (p : LD H D (ns.map dN)) : H D = some (.lst (ns.map vN)) := by
  obtain ⟨vs, h1, h2⟩ := p
  rw [h2.nats] at h1
  exact h1
theorem LD.ofNats {H : Hp} {D : Addr} {ns : List Nat} (h : H D = some (.lst (ns.map vN))) : LD H D (ns.map dN) := ⟨_, h, .ofNats ns⟩
/-- the i-th of a list that stands for l -/
theorem map_at {α β : Type} {f : α → β} {l : List α} {i : Nat} {y : β} (h : (l.map f)[i]? = some y) : ∃ x, l[i]? = some x ∧ y = f x := by
  rw [List.getElem?_map] at h
  cases e : l[i]? with
  | none => rw [e] at h; cases h
  | some x => rw [e] at h; exact ⟨x, rfl, (Option.some.inj h).symm⟩
theorem hu65 {k : Nat} {A : Around} (hr : Room k A) : A.units + 66 < cLine := by have := hr.un; omega
theorem lt_line {n : Nat} (h : n ≤ 1000000) : n < sizeLine := Nat.lt_of_le_of_lt h (by decide)
theorem le_line {n : Nat} (h : n ≤ 1000000) : n ≤ sizeLine := Nat.le_of_lt (lt_line h)
end SW


set_option maxRecDepth 100000
set_option maxHeartbeats 2000000
/-! is_integer, _is_edge, same. -/
namespace SW
open PySem PySem.Spec PyProof.Rows L2
section
variable {P : Program} {w : World} {K : PySem.W.Frag} {mg : Str → Option Value} {base : Heap}
/-! ### is_integer -/
def sp_is_integer : Sp := fun vs H Q _ => ∃ a b c : Int, vs = [.int a, .int b, .int c] ∧ Q (.bl (decide (b ≤ a) && decide (a ≤ c))) H
theorem ok_is_integer (T : Txt K mg w) : FnOk P w K mg base CX0 1 T.f_is_integer T.fd_is_integer ["value", "least", "most"] sp_is_integer := by
  refine T.F_is_integer.ok sc_is_integer (fun vs H Q E h => ?_) (fun cdv A outer s H vs Q E hr h => ?_)
  · obtain ⟨a, b, c, rfl, _⟩ := h
    rfl
  · obtain ⟨a, b, c, rfl, q⟩ := h
    refine ⟨_, PSs.nox (pss_one (ps_ret (pe_and (pe_callB call_isi rfl T.z_isinstance boot_isinstance (pa_cons (pv 0) (pa_cons (pe_bltn (v := .ty "int") rfl T.z_int boot_int rfl) pa_nil))) (pe_and (pe_not (pe_callB call_isi rfl T.z_isinstance boot_isinstance (pa_cons (pv 0) (pa_cons (pe_bltn (v := .ty "bool") rfl T.z_bool boot_bool rfl) pa_nil)))) (pe_one (pe_chain op_le op_le (pv 1) (pv 0) (pv 2))))))), ?_⟩
    refine ⟨_, rfl, _, _, _, _, true, rfl, .ty _, .base (.int _), kit_ty (by decide +kernel), _, rfl, iteT ?_⟩
    refine ⟨_, rfl, _, _, _, _, false, rfl, .ty _, .base (.int _), kit_ty (by decide +kernel), _, rfl, _, rfl, iteT ?_⟩
    refine ⟨_, rfl, _, rfl, _, _, rfl, rfl, _, rfl, ?_⟩
    cases e : decide (b ≤ a) with
    | false =>
      rw [e] at q
      exact iteF q
    | true =>
      rw [e] at q
      exact iteT ⟨_, rfl, _, _, rfl, rfl, q⟩
/-! ### _is_edge: a pair of numbers -/
def sp__is_edge : Sp := fun vs H Q _ => ∃ (v : V) (p : Nat × Nat) (n : Nat), vs = [v, vN n] ∧ TD H v (dP p) ∧ Q (.bl (decide (p.1 < n ∧ p.2 < n ∧ p.1 < p.2))) H
theorem ok__is_edge (T : Txt K mg w) : FnOk P w K mg base CX0 2 T.f__is_edge T.fd__is_edge ["edge", "size"] sp__is_edge := by
  refine T.F__is_edge.ok sc__is_edge (fun vs H Q E h => ?_) (fun cdv A outer s H vs Q E hr h => ?_)
  · obtain ⟨v, p, n, rfl, _⟩ := h
    rfl
  · obtain ⟨v, p, n, rfl, hv, q⟩ := h
    obtain ⟨a, rfl, ha⟩ := hv.pairI
    refine ⟨_, PSs.nox (pss_cons (ps_if (PW.pt (pw_or (pt_not (pt_val (pe_callB call_isi rfl T.z_isinstance boot_isinstance (pa_cons (pv 0) (pa_cons (pe_bltn (v := .ty "tuple") rfl T.z_tuple boot_tuple rfl) pa_nil))))) (pw_or1 (pt_cmpR op_ne (pe_callB cr_len rfl T.z_len boot_len (pa_cons (pv 0) pa_nil)) pe_int (by first | exact nomark _ | with_unfolding_all rfl)))))
    (pss_one (ps_ret pe_bl))
    pss_nil)
    (pss_one (ps_ret (pe_and (pe_call (ok_is_integer T) (hr.mono (by decide)) rfl T.g_is_integer T.F_is_integer.kp (b_is_integer T) .nil pass0 (pa_cons (pe_ix op_ix (pv 0) pe_int (fun _ _ => rfl)) (pa_cons pe_int (pa_cons (pe_op op_sub (pv 1) pe_int) pa_nil)))) (pe_and (pe_call (ok_is_integer T) (hr.mono (by decide)) rfl T.g_is_integer T.F_is_integer.kp (b_is_integer T) .nil pass0 (pa_cons (pe_ix op_ix (pv 0) pe_int (fun _ _ => rfl)) (pa_cons pe_int (pa_cons (pe_op op_sub (pv 1) pe_int) pa_nil)))) (pe_one (pe_cmpR op_lt (pe_ix op_ix (pv 0) pe_int (fun _ _ => rfl)) (pe_ix op_ix (pv 0) pe_int (fun _ _ => rfl)) (by first | exact nomark _ | with_unfolding_all rfl)))))))), ?_⟩
    refine ⟨_, rfl, _, _, _, _, true, rfl, .ty _, .base (.tup ha), kit_ty (by decide +kernel), _, rfl, iteF ?_⟩
    refine ⟨_, rfl, a, _, rfl, .inr ha, rfl, _, rfl, iteF ?_⟩
    refine ⟨_, rfl, _, _, _, _, rfl, rfl, .inr ha, rfl, _, rfl, _, _, rfl, rfl, _, _, _, rfl, _, rfl, ?_⟩
    have e1 : ∀ x : Nat, (decide ((0 : Int) ≤ (x : Int)) && decide ((x : Int) ≤ (n : Int) - 1)) = decide (x < n) := fun x => by
      rw [decide_eq_true (by omega : (0 : Int) ≤ (x : Int)), Bool.true_and]
      exact decide_eq_decide.mpr (by omega)
    rw [e1 p.1]
    refine ite2 (fun h1 => ?_) (fun h1 => ?_)
    · have h1' := of_decide_eq_true h1
      refine ⟨_, rfl, _, _, _, _, rfl, rfl, .inr ha, rfl, _, rfl, _, _, rfl, rfl, _, _, _, rfl, _, rfl, ?_⟩
      rw [e1 p.2]
      refine ite2 (fun h2 => ?_) (fun h2 => ?_)
      · have h2' := of_decide_eq_true h2
        refine ⟨_, rfl, _, _, _, _, rfl, rfl, .inr ha, rfl, _, rfl, _, _, _, _, rfl, rfl, .inr ha, rfl, _, _, rfl, rfl, ?_⟩
        have e : decide (p.1 < n ∧ p.2 < n ∧ p.1 < p.2) = decide ((p.1 : Int) < (p.2 : Int)) := decide_eq_decide.mpr (by omega)
        rw [e] at q
        exact q
      · have h2' : ¬ p.2 < n := fun z => h2 (decide_eq_true z)
        rw [decide_eq_false (by omega)] at q
        exact q
    · have h1' : ¬ p.1 < n := fun z => h1 (decide_eq_true z)
      rw [decide_eq_false (by omega)] at q
      exact q
end
end SW


set_option maxRecDepth 100000
set_option maxHeartbeats 2000000
/-! is_step, next_frame. -/
namespace SW
open PySem PySem.Spec PyProof.Rows L2
section
variable {P : Program} {w : World} {K : PySem.W.Frag} {mg : Str → Option Value} {base : Heap}
/-! ### is_step -/
theorem okStp_la {k : Nat} (s : SWM.Stp) : SWM.okStp k s ↔ ∀ i ∈ la s, i ≤ k := by cases s <;> simp [SWM.okStp, la]
def sp_is_step : Sp := fun vs H Q _ => ∃ (v : V) (s : SWM.Stp) (k : Nat), vs = [v, vN k] ∧ TD H v (dS s) ∧ SWM.okStp k s ∧ ∀ H', Same H H' → Q (.bl true) H'
theorem ok_is_step (T : Txt K mg w) : FnOk P w K mg base CX0 2 T.f_is_step T.fd_is_step ["step", "k"] sp_is_step := by
  refine T.F_is_step.ok sc_is_step (fun vs H Q E h => ?_) (fun cdv A outer s H vs Q E hr h => ?_)
  · obtain ⟨v, st, k, rfl, _⟩ := h
    rfl
  · obtain ⟨v, st, k, rfl, hv, hk, q⟩ := h
    obtain ⟨a, rfl, ha⟩ := hv.stepI
    have hu := hu65 hr
    refine ⟨_, PSs.nox (pss_cons (ps_if (PW.pt (pw_or (pt_not (pt_val (pe_callB call_isi rfl T.z_isinstance boot_isinstance (pa_cons (pv 0) (pa_cons (pe_bltn (v := .ty "tuple") rfl T.z_tuple boot_tuple rfl) pa_nil))))) (pw_or (pt_cmpR op_eq (pe_callB cr_len rfl T.z_len boot_len (pa_cons (pv 0) pa_nil)) pe_int (by first | exact nomark _ | with_unfolding_all rfl)) (pw_or1 (pt_not (pt_val (pe_callB call_isi rfl T.z_isinstance boot_isinstance (pa_cons (pe_ix op_ix (pv 0) pe_int (fun _ _ => rfl)) (pa_cons (pe_bltn (v := .ty "str") rfl T.z_str boot_str rfl) pa_nil)))))))))
    (pss_one (ps_ret pe_bl))
    pss_nil)
    (pss_cons (ps_if (PW.pt (pw_or (pt_cmpR (op_notInLABELS T) (pe_ix op_ix (pv 0) pe_int (fun _ _ => rfl)) (pe_glob (v := .ref T.a_LABELS) rfl T.g_LABELS rfl) (by first | exact nomark _ | with_unfolding_all rfl)) (pw_or1 (pt_cmpR op_ne (pe_callB cr_len rfl T.z_len boot_len (pa_cons (pv 0) pa_nil)) (pe_op op_add (pe_ix (ix_LABELS T) (pe_glob (v := .ref T.a_LABELS) rfl T.g_LABELS rfl) (pe_ix op_ix (pv 0) pe_int (fun _ _ => rfl)) (fun _ _ => rfl)) pe_int) (by first | exact nomark _ | with_unfolding_all rfl)))))
    (pss_one (ps_ret pe_bl))
    pss_nil)
    (pss_one (ps_ret (pe_callB (cr_allL rfl) rfl T.z_all boot_all (pa_cons (pe_lc (own := [("label", 2)]) (g := gName 2) rfl sc_is_step.nd (pi_tup (pe_slice sl_t (pv 0) (po_some pe_int) po_none)) (blkOk_by (N := ["step", "k", "label"]) (sc := defScope s_is_step) (by decide +kernel)) (fun _ _ _ _ _ => pg_name (i := 2) sc_is_step.nd rfl (Or.inl rfl)) (fun _ _ _ _ _ => pts_nil) (fun _ _ _ _ _ => (pe_call (ok_is_integer T) (hr.mono (by decide)) rfl T.g_is_integer T.F_is_integer.kp (b_is_integer T) .nil pass0 (pa_cons (pv 2) (pa_cons pe_int (pa_cons (pv 1) pa_nil)))))) pa_nil))))))
    , ?_⟩
    have hlen : (V.str (wd st) :: (la st).map vN).length = (la st).length + 1 := by simp
    refine ⟨_, rfl, _, _, _, _, true, rfl, .ty _, .base (.tup ha), kit_ty (by decide +kernel), _, rfl, iteF ?_⟩
    refine ⟨_, rfl, a, _, rfl, .inr ha, rfl, _, rfl, ?_⟩
    rw [vne (by rw [hlen]; omega)]
    refine iteF ⟨_, rfl, _, _, _, _, rfl, rfl, .inr ha, at0, _, _, _, _, true, rfl, .ty _, .base (.str _), kit_ty (by decide +kernel), _, rfl, iteF ?_⟩
    refine ⟨_, rfl, _, _, _, _, rfl, rfl, .inr ha, at0, st, rfl, rfl, _, rfl, iteF ?_⟩
    refine ⟨_, rfl, a, _, rfl, .inr ha, _, rfl, _, _, _, _, rfl, rfl, .inr ha, at0, st, rfl, rfl, _, _, rfl, rfl, rfl, _, rfl, ?_⟩
    rw [veq (by rw [hlen]; omega)]
    refine iteF ?_
    refine ⟨_, rfl, _, rfl, _, _, rfl, ha, part_of (a := 1) rfl (by decide) (by simp), fun p hp => ?_⟩
    rw [cut_from (i := 1) _ 1 rfl]
    refine ⟨_, rfl, ⟨_, SqT.of upd_same⟩, fun D hD => lc_td (walk_tup (xs := (la st).map vN)) hD (outM (la st) fun i => .bool true) outM_0 (fun H h => SqT.of (h _ _ upd_same)) ?_ ?_⟩
    · rintro i x H1 H1' hi pl ⟨rfl, hx⟩
      obtain ⟨n, hn, rfl⟩ := map_at hx
      refine ⟨rfl, _, rfl, _, rfl, _, _, _, rfl, ?_⟩
      have hb : n ≤ k := (okStp_la st).mp hk n (List.mem_of_getElem? hn)
      have e : (decide ((0 : Int) ≤ (n : Int)) && decide ((n : Int) ≤ (k : Int))) = true := by
        rw [decide_eq_true (by omega), decide_eq_true (by omega)]; rfl
      rw [e, outM_yes hn]
      have hl : (la st).length ≤ 2 := by cases st <;> simp [la]
      exact pl.add hD (Same.refl _) (.bl true) (lt_line (by have := outM_len (l := la st) (f := fun _ => PyData.bool true) (i := i); omega))
    · intro H1 pl
      have hl : ((la st).map vN).length = (la st).length := by simp
      rw [hl, outM_all] at pl
      have e : (la st).map (fun _ => PyData.bool true) = ((la st).map fun _ => true).map PyData.bool := by simp
      rw [e] at pl
      refine ⟨D, _, rfl, pl.bools, ?_⟩
      have e2 : ((la st).map fun _ => true).all id = true := by simp
      rw [e2]
      exact q _ ((same_new hp).trans pl.1)
end
end SW


set_option maxRecDepth 100000
set_option maxHeartbeats 2000000
/-! next_frame. -/
namespace SW
open PySem PySem.Spec PyProof.Rows L2
theorem ifT {c : Bool} {A B : Prop} (e : c = true) (h : A) : if c = true then A else B := by rw [if_pos e]; exact h
theorem ifF {c : Bool} {A B : Prop} (e : c = false) (h : B) : if c = true then A else B := by rw [e, if_neg Bool.false_ne_true]; exact h
theorem TD.blp {H : Hp} {p : Prop} {i1 i2 : Decidable p} : TD H (.bl (@decide p i1)) (.bool (@decide p i2)) := by
  have e : i1 = i2 := Subsingleton.elim _ _
  subst e; exact .bl _
theorem one_line : 1 ≤ sizeLine := by decide
theorem two_line : 2 ≤ sizeLine := by decide
theorem TD.frm {H : Hp} {a : Addr} {x y : V} {f : SWM.Frm} (h : H a = some (.tup [x, y])) (hx : TD H x (dNs f.1)) (hy : TD H y (dPs f.2)) : TD H (.ref a) (dF f) := .tup h (.cons hx (.cons hy .nil))
section
variable {P : Program} {w : World} {K : PySem.W.Frag} {mg : Str → Option Value} {base : Heap}
def FrOk (f : SWM.Frm) : Prop := f.1.length ≤ 100000 ∧ f.2.length ≤ 100000
/-- v tells what o is: None, or a frame -/
def FrV (H : Hp) (v : V) : Option SWM.Frm → Prop
  | none => v = .non
  | some f => TD H v (dF f)
def sp_next_frame : Sp := fun vs H Q _ => ∃ (v : V) (p : Addr) (s : SWM.Stp) (fs : List SWM.Frm), vs = [v, .ref p] ∧ TD H v (dS s) ∧ LD H p (fs.map dF) ∧ fs.length = SWM.ar s ∧ (∀ f ∈ fs, FrOk f) ∧
  ∀ H' v, Same H H' → FrV H' v (SWM.nextF s fs) → Q v H'
theorem ok_next_frame (T : Txt K mg w) : FnOk P w K mg base CX0 1 T.f_next_frame T.fd_next_frame ["step", "frames"] sp_next_frame := by
  refine T.F_next_frame.ok sc_next_frame (fun vs H Q E h => ?_) (fun cdv A outer s H vs Q E hr h => ?_)
  · obtain ⟨v, p, st, fs, rfl, _⟩ := h
    rfl
  · obtain ⟨v, p, st, fs, rfl, hv, hp, hfs, hok, q⟩ := h
    obtain ⟨a, rfl, ha⟩ := hv.stepI
    have hu := hu65 hr
    refine ⟨_, PSs.nox (pss_cons (ps_if (pt_cmpR op_eq (pe_ix op_ix (pv 0) pe_int (fun _ _ => rfl)) pe_str (by first | exact nomark _ | with_unfolding_all rfl))
    (pss_one (ps_ret (pe_tup (pa_cons (pe_tup pa_nil) (pa_cons (pe_tup pa_nil) pa_nil)))))
    pss_nil)
    (pss_cons (ps_asg (pe_ix op_ix (pv 1) pe_int (fun _ _ => rfl)) (pg_tup (by rfl) (pgs_cons (pg_name (i := 2) sc_next_frame.nd rfl (Or.inl rfl)) (pgs_cons (pg_name (i := 3) sc_next_frame.nd rfl (Or.inr rfl)) pgs_nil))))
    (pss_cons (ps_if (PW.pt (pw_and (pt_cmpR op_eq (pe_ix op_ix (pv 0) pe_int (fun _ _ => rfl)) pe_str (by first | exact nomark _ | with_unfolding_all rfl)) (pw_and1 (pt_cmpR (op_notInT (Nat.lt_of_succ_lt hu)) (pe_ix op_ix (pv 0) pe_int (fun _ _ => rfl)) (pv 2) (by first | exact nomark _ | with_unfolding_all rfl)))))
    (pss_one (ps_ret (pe_tup (pa_cons (pe_callTy cr_tup rfl T.z_tuple boot_tuple (pa_cons (pe_callB (cr_sortedD hu) rfl T.z_sorted boot_sorted (pa_cons (pe_op op_catTup (pv 2) (pe_tup (pa_cons (pe_ix op_ix (pv 0) pe_int (fun _ _ => rfl)) pa_nil))) pa_nil)) pa_nil)) (pa_cons (pv 3) pa_nil)))))
    pss_nil)
    (pss_cons (ps_if (PW.pt (pw_and (pt_cmpR op_eq (pe_ix op_ix (pv 0) pe_int (fun _ _ => rfl)) pe_str (by first | exact nomark _ | with_unfolding_all rfl)) (pw_and1 (pt_cmpR (op_inT (Nat.lt_of_succ_lt hu)) (pe_ix op_ix (pv 0) pe_int (fun _ _ => rfl)) (pv 2) (by first | exact nomark _ | with_unfolding_all rfl)))))
    (pss_one (ps_ret (pe_tup (pa_cons (pe_callTy cr_tup rfl T.z_tuple boot_tuple (pa_cons (pe_lc (own := [("i", 4)]) (g := gName 4) rfl sc_next_frame.nd (pi_tup (pv 2)) (blkOk_by (N := ["step", "frames", "labels", "pairs", "i", "pair"]) (sc := defScope s_next_frame) (by decide +kernel)) (fun _ _ _ _ _ => pg_name (i := 4) sc_next_frame.nd rfl (Or.inl rfl)) (fun _ _ _ _ _ => pts_one (pt_cmpR op_ne (pv 4) (pe_ix op_ix (pv 0) pe_int (fun _ _ => rfl)) (by first | exact nomark _ | with_unfolding_all rfl))) (fun _ _ _ _ _ => (pv 4))) pa_nil)) (pa_cons (pe_callTy cr_tup rfl T.z_tuple boot_tuple (pa_cons (pe_lc (own := [("pair", 5)]) (g := gName 5) rfl sc_next_frame.nd (pi_tup (pv 3)) (blkOk_by (N := ["step", "frames", "labels", "pairs", "i", "pair"]) (sc := defScope s_next_frame) (by decide +kernel)) (fun _ _ _ _ _ => pg_name (i := 5) sc_next_frame.nd rfl (Or.inl rfl)) (fun _ _ _ _ _ => pts_one (pt_cmpR (op_notInT (Nat.lt_of_succ_lt hu)) (pe_ix op_ix (pv 0) pe_int (fun _ _ => rfl)) (pv 5) (by first | exact nomark _ | with_unfolding_all rfl))) (fun _ _ _ _ _ => (pv 5))) pa_nil)) pa_nil)))))
    pss_nil)
    (pss_cons (ps_if (PW.pt (pw_and (pt_cmpR op_eq (pe_ix op_ix (pv 0) pe_int (fun _ _ => rfl)) pe_str (by first | exact nomark _ | with_unfolding_all rfl)) (pw_and (pt_cmpR op_lt (pe_ix op_ix (pv 0) pe_int (fun _ _ => rfl)) (pe_ix op_ix (pv 0) pe_int (fun _ _ => rfl)) (by first | exact nomark _ | with_unfolding_all rfl)) (pw_and (pt_cmpR (op_inT (Nat.lt_of_succ_lt hu)) (pe_ix op_ix (pv 0) pe_int (fun _ _ => rfl)) (pv 2) (by first | exact nomark _ | with_unfolding_all rfl)) (pw_and (pt_cmpR (op_inT (Nat.lt_of_succ_lt hu)) (pe_ix op_ix (pv 0) pe_int (fun _ _ => rfl)) (pv 2) (by first | exact nomark _ | with_unfolding_all rfl)) (pw_and1 (pt_cmpR (op_notInT (Nat.lt_of_succ_lt hu)) (pe_slice sl_t (pv 0) (po_some pe_int) po_none) (pv 3) (by first | exact nomark _ | with_unfolding_all rfl))))))))
    (pss_one (ps_ret (pe_tup (pa_cons (pv 2) (pa_cons (pe_callTy cr_tup rfl T.z_tuple boot_tuple (pa_cons (pe_callB (cr_sortedD hu) rfl T.z_sorted boot_sorted (pa_cons (pe_op op_catTup (pv 3) (pe_tup (pa_cons (pe_slice sl_t (pv 0) (po_some pe_int) po_none) pa_nil))) pa_nil)) pa_nil)) pa_nil)))))
    pss_nil)
    (pss_cons (ps_if (PW.pt (pw_and (pt_cmpR op_eq (pe_ix op_ix (pv 0) pe_int (fun _ _ => rfl)) pe_str (by first | exact nomark _ | with_unfolding_all rfl)) (pw_and (pt_cmpR (op_eqT (Nat.lt_of_succ_lt hu)) (pe_ix op_ix (pe_ix op_ix (pv 1) pe_int (fun _ _ => rfl)) pe_int (fun _ _ => rfl)) (pv 2) (by first | exact nomark _ | with_unfolding_all rfl)) (pw_and1 (pt_not (pt_val (pe_callB (cr_anyL rfl) rfl T.z_any boot_any (pa_cons (pe_lc (own := [("pair", 5)]) (g := gName 5) rfl sc_next_frame.nd (pi_tup (pe_ix op_ix (pe_ix op_ix (pv 1) pe_int (fun _ _ => rfl)) pe_int (fun _ _ => rfl))) (blkOk_by (N := ["step", "frames", "labels", "pairs", "i", "pair"]) (sc := defScope s_next_frame) (by decide +kernel)) (fun _ _ _ _ _ => pg_name (i := 5) sc_next_frame.nd rfl (Or.inl rfl)) (fun _ _ _ _ _ => pts_nil) (fun _ _ _ _ _ => (pe_cmpR (op_inT (Nat.lt_of_succ_lt hu)) (pv 5) (pv 3) (by first | exact nomark _ | with_unfolding_all rfl)))) pa_nil))))))))
    (pss_one (ps_ret (pe_tup (pa_cons (pv 2) (pa_cons (pe_callTy cr_tup rfl T.z_tuple boot_tuple (pa_cons (pe_callB (cr_sortedD hu) rfl T.z_sorted boot_sorted (pa_cons (pe_op op_catTup (pv 3) (pe_ix op_ix (pe_ix op_ix (pv 1) pe_int (fun _ _ => rfl)) pe_int (fun _ _ => rfl))) pa_nil)) pa_nil)) pa_nil)))))
    pss_nil)
    (pss_one (ps_ret pe_non))))))))
    , ?_⟩
    obtain ⟨vs, hp1, hp2⟩ := hp
    cases st with
    | empty =>
      refine ⟨_, rfl, _, _, _, _, rfl, rfl, .inr ha, at0, rfl, _, rfl, ifT (by decide) ?_⟩
      refine ⟨Nat.zero_le _, fun t1 h1 => ⟨Nat.zero_le _, fun t2 h2 => ⟨two_line, fun t3 h3 => ?_⟩⟩⟩
      have s1 := same_new (o := .tup []) h1
      have s2 := same_new (o := .tup []) h2
      have s3 := same_new (o := .tup [.ref t1, .ref t2]) h3
      refine q _ _ ((s1.trans s2).trans s3) (show TD _ _ _ from TD.frm (f := ([], [])) upd_same (.tup (s3 _ _ (s2 _ _ upd_same)) .nil) (.tup (s3 _ _ upd_same) .nil))
    | new i =>
      obtain ⟨f, rfl⟩ : ∃ f, fs = [f] := List.length_eq_one_iff.mp hfs
      cases hp2 with
      | cons hf hz =>
      cases hz
      obtain ⟨b, x, y, rfl, hb, hx, hy⟩ := hf.frmI
      have hl : f.1.length ≤ 100000 := (hok f (by simp)).1
      obtain ⟨c, rfl, hc⟩ := hx.natsI
      refine ⟨_, rfl, _, _, _, _, rfl, rfl, .inr ha, at0, rfl, _, rfl, ifF (sne ((show ("new" : Str) ≠ "empty" by decide))) ?_⟩
      refine ⟨_, rfl, _, _, _, _, rfl, rfl, .inl hp1, at0, _, _, rfl, SqT.of hb, rfl, _, _, rfl, _, _, rfl, rfl, ?_⟩
      refine ⟨_, rfl, _, _, _, _, rfl, rfl, .inr ha, at0, rfl, _, rfl, ifT (seq rfl) ?_⟩
      refine ⟨_, rfl, _, _, _, _, rfl, rfl, .inr ha, at1, _, rfl, dN i, f.1.map dN, .int _, hx, Nice.of (ni_N i) (by decide), ⟨(niceAll_map ni_N f.1).lay, Nat.le_trans (niceAll_map ni_N f.1).dep (by decide)⟩, _, rfl, ?_⟩
      rw [any_map eqv_N]
      refine ite2 (fun h => ?_) (fun h => ?_)
      · have hi : ¬ i ∈ f.1 := by simpa using h
        refine ⟨_, rfl, _, rfl, _, _, _, _, rfl, rfl, .inr ha, at1, one_line, fun t1 h1 => ?_⟩
        have s1 := same_new (o := .tup [vN i]) h1
        refine ⟨_, _, _, _, rfl, rfl, s1 _ _ hc, upd_same, le_line (by simp; omega), fun p2 H2 s2 hp2 => ?_⟩
        refine sortedN (f.1 ++ [i]) (.inr hp2) (by have := TDs.ofNats (H := H2) (f.1 ++ [i]); simpa [vN] using this) fun p3 h3 => ?_
        have s3 := same_new (o := .lst ((SWM.srtN (f.1 ++ [i])).map vN)) h3
        refine ⟨_, _, rfl, upd_same, fun p4 h4 => ?_⟩
        have s4 := same_new (o := .tup ((SWM.srtN (f.1 ++ [i])).map vN)) h4
        refine ⟨_, rfl, two_line, fun p5 h5 => ?_⟩
        have s5 := same_new (o := .tup [.ref p4, y]) h5
        have ss := (((s1.trans s2).trans s3).trans s4).trans s5
        refine q _ _ ss ?_
        show FrV _ _ (if i ∈ f.1 then none else some (SWM.srtN (f.1 ++ [i]), f.2))
        rw [if_neg hi]
        exact TD.frm (f := (_, _)) upd_same (TD.ofNats (s5 _ _ upd_same)) (hy.mono (Same.t ss))
      · have hi : i ∈ f.1 := by simpa using h
        refine ⟨_, rfl, _, _, _, _, rfl, rfl, .inr ha, at0, rfl, _, rfl, ifF (sne (show ("new" : Str) ≠ "forget" by decide)) ⟨_, rfl, _, _, _, _, rfl, rfl, .inr ha, at0, rfl, _, rfl, ifF (sne (show ("new" : Str) ≠ "edge" by decide)) ⟨_, rfl, _, _, _, _, rfl, rfl, .inr ha, at0, rfl, _, rfl, ifF (sne (show ("new" : Str) ≠ "join" by decide)) ?_⟩⟩⟩
        refine q _ _ (Same.refl H) ?_
        show FrV _ _ (if i ∈ f.1 then none else some (SWM.srtN (f.1 ++ [i]), f.2))
        rw [if_pos hi]
        rfl
    | forget i =>
      obtain ⟨f, rfl⟩ : ∃ f, fs = [f] := List.length_eq_one_iff.mp hfs
      cases hp2 with
      | cons hf hz =>
      cases hz
      obtain ⟨b, x, y, rfl, hb, hx, hy⟩ := hf.frmI
      have hl : f.1.length ≤ 100000 := (hok f (by simp)).1
      have hl2 : f.2.length ≤ 100000 := (hok f (by simp)).2
      obtain ⟨c, rfl, hc⟩ := hx.natsI
      obtain ⟨d, ys, rfl, hd, hys⟩ := hy.tupI
      refine ⟨_, rfl, _, _, _, _, rfl, rfl, .inr ha, at0, rfl, _, rfl, ifF (sne (show ("forget" : Str) ≠ "empty" by decide)) ?_⟩
      refine ⟨_, rfl, _, _, _, _, rfl, rfl, .inl hp1, at0, _, _, rfl, SqT.of hb, rfl, _, _, rfl, _, _, rfl, rfl, ?_⟩
      refine ⟨_, rfl, _, _, _, _, rfl, rfl, .inr ha, at0, rfl, _, rfl, ifF (sne (show ("forget" : Str) ≠ "new" by decide)) ⟨_, rfl, _, _, _, _, rfl, rfl, .inr ha, at0, rfl, _, rfl, ifT (seq rfl) ?_⟩⟩
      refine ⟨_, rfl, _, _, _, _, rfl, rfl, .inr ha, at1, _, rfl, dN i, f.1.map dN, .int _, hx, Nice.of (ni_N i) (by decide), ⟨(niceAll_map ni_N f.1).lay, Nat.le_trans (niceAll_map ni_N f.1).dep (by decide)⟩, _, rfl, ?_⟩
      rw [any_map eqv_N]
      refine ite2 (fun h => ?_) (fun h => ?_)
      · have hi : i ∈ f.1 := by simpa using h
        refine ⟨_, rfl, _, rfl, ⟨_, SqT.of hc⟩, fun D hD => lc_td (walk_tup (xs := f.1.map vN)) hD (outF f.1 (fun x => decide (x ≠ i)) dN) outF_0 (fun H h => SqT.of (h _ _ hc)) ?_ ?_⟩
        · rintro j x H1 H1' hj pl ⟨rfl, hx⟩
          obtain ⟨n, hn, rfl⟩ := map_at hx
          refine ⟨rfl, _, rfl, _, rfl, _, _, _, _, rfl, rfl, .inr (pl.1 _ _ ha), at1, rfl, _, rfl, ?_⟩
          rw [vdec]
          by_cases e : n = i
          · rw [decide_eq_true e]
            show PL _ _ _ _
            rw [outF_no hn (by simpa using e)]
            exact pl
          · rw [decide_eq_false e]
            refine ⟨_, rfl, ?_⟩
            rw [outF_yes hn (by simpa using e)]
            exact pl.add hD (Same.refl _) (.int _) (lt_line (by have := outF_len (l := f.1) (p := fun x => decide (x ≠ i)) (f := dN) (i := j); omega))
        · intro H1 pl
          rw [show (f.1.map vN).length = f.1.length by simp, outF_all] at pl
          refine ⟨_, _, rfl, pl.nats, fun p1 h1 => ?_⟩
          have s1 := pl.1.trans (same_new (o := .tup ((f.1.filter fun x => decide (x ≠ i)).map vN)) h1)
          refine ⟨_, rfl, _, rfl, ⟨_, SqT.of (s1 _ _ hd)⟩, fun D2 hD2 => lc_td (walk_tup (xs := ys)) hD2 (outF f.2 (fun q => decide (¬ (i = q.1 ∨ i = q.2))) dP) outF_0 (fun H h => SqT.of (h _ _ (s1 _ _ hd))) ?_ ?_⟩
          · rintro j x H2 H2' hj pl2 ⟨rfl, hx⟩
            obtain ⟨dd, hn, hxd⟩ := hys.getV hx
            obtain ⟨pr, hpr, rfl⟩ := map_at hn
            have s2 := s1.trans pl2.1
            have hxp := hxd.mono (Same.t s2)
            refine ⟨rfl, _, rfl, _, _, _, _, rfl, rfl, .inr (s2 _ _ ha), at1, _, rfl, dN i, [pr.1, pr.2].map dN, .int _, hxp, Nice.of (ni_N i) (by decide), ⟨(niceAll_map ni_N _).lay, Nat.le_trans (niceAll_map ni_N _).dep (by decide)⟩, _, rfl, ?_⟩
            rw [any_map eqv_N]
            by_cases e : i = pr.1 ∨ i = pr.2
            · rw [decide_eq_true (by simpa using e)]
              show PL _ _ _ _
              rw [outF_no hpr (decide_eq_false fun z => z e)]
              exact pl2
            · rw [decide_eq_false (by simpa using e)]
              refine ⟨_, rfl, ?_⟩
              rw [outF_yes hpr (decide_eq_true e)]
              exact pl2.add hD2 (Same.refl _) hxp (lt_line (by have := outF_len (l := f.2) (p := fun q : Nat × Nat => decide (¬ (i = q.1 ∨ i = q.2))) (f := dP) (i := j); omega))
          · intro H2 pl2
            rw [show ys.length = f.2.length by rw [hys.length]; simp, outF_all] at pl2
            obtain ⟨s2, zs, hz1, hz2⟩ := pl2
            refine ⟨_, _, rfl, hz1, fun p3 h3 => ?_⟩
            have s3 := same_new (o := .tup zs) h3
            refine ⟨two_line, fun p4 h4 => ?_⟩
            have s4 := same_new (o := .tup [.ref p1, .ref p3]) h4
            refine q _ _ (((s1.trans s2).trans s3).trans s4) ?_
            show FrV _ _ (if i ∈ f.1 then some (f.1.filter (fun x => decide (x ≠ i)), f.2.filter fun q => decide (¬ (i = q.1 ∨ i = q.2))) else none)
            rw [if_pos hi]
            exact TD.frm (f := (_, _)) upd_same (TD.ofNats (s4 _ _ (s3 _ _ (s2 _ _ upd_same)))) (.tup (s4 _ _ upd_same) (hz2.mono (Same.t (s3.trans s4))))
      · have hi : ¬ i ∈ f.1 := by simpa using h
        refine ⟨_, rfl, _, _, _, _, rfl, rfl, .inr ha, at0, rfl, _, rfl, ifF (sne (show ("forget" : Str) ≠ "edge" by decide)) ⟨_, rfl, _, _, _, _, rfl, rfl, .inr ha, at0, rfl, _, rfl, ifF (sne (show ("forget" : Str) ≠ "join" by decide)) ?_⟩⟩
        refine q _ _ (Same.refl H) ?_
        show FrV _ _ (if i ∈ f.1 then some (f.1.filter (fun x => decide (x ≠ i)), f.2.filter fun q => decide (¬ (i = q.1 ∨ i = q.2))) else none)
        rw [if_neg hi]
        rfl
    | edge i j =>
      obtain ⟨f, rfl⟩ : ∃ f, fs = [f] := List.length_eq_one_iff.mp hfs
      cases hp2 with
      | cons hf hz =>
      cases hz
      obtain ⟨b, x, y, rfl, hb, hx, hy⟩ := hf.frmI
      have hl : f.1.length ≤ 100000 := (hok f (by simp)).1
      have hl2 : f.2.length ≤ 100000 := (hok f (by simp)).2
      obtain ⟨c, rfl, hc⟩ := hx.natsI
      obtain ⟨d, ys, rfl, hd, hys⟩ := hy.tupI
      have noN : ∀ H', Same H H' → ¬ (i < j ∧ i ∈ f.1 ∧ j ∈ f.1 ∧ ¬ (i, j) ∈ f.2) → Q .non H' := fun H' ss hn => by
        refine q _ _ ss ?_
        show FrV _ _ (if i < j ∧ i ∈ f.1 ∧ j ∈ f.1 ∧ ¬ (i, j) ∈ f.2 then some (f.1, SWM.srtP (f.2 ++ [(i, j)])) else none)
        rw [if_neg hn]; rfl
      refine ⟨_, rfl, _, _, _, _, rfl, rfl, .inr ha, at0, rfl, _, rfl, ifF (sne (show ("edge" : Str) ≠ "empty" by decide)) ?_⟩
      refine ⟨_, rfl, _, _, _, _, rfl, rfl, .inl hp1, at0, _, _, rfl, SqT.of hb, rfl, _, _, rfl, _, _, rfl, rfl, ?_⟩
      refine ⟨_, rfl, _, _, _, _, rfl, rfl, .inr ha, at0, rfl, _, rfl, ifF (sne (show ("edge" : Str) ≠ "new" by decide)) ⟨_, rfl, _, _, _, _, rfl, rfl, .inr ha, at0, rfl, _, rfl, ifF (sne (show ("edge" : Str) ≠ "forget" by decide)) ⟨_, rfl, _, _, _, _, rfl, rfl, .inr ha, at0, rfl, _, rfl, ifT (seq rfl) ?_⟩⟩⟩
      refine ⟨_, rfl, _, _, _, _, rfl, rfl, .inr ha, at1, _, rfl, _, _, _, _, rfl, rfl, .inr ha, at2, _, _, rfl, rfl, _, rfl, ?_⟩
      refine ite2 (fun h1 => ?_) (fun h1 => ?_)
      · have h1' : i < j := by have := of_decide_eq_true h1; omega
        refine ⟨_, rfl, _, _, _, _, rfl, rfl, .inr ha, at1, _, rfl, dN i, f.1.map dN, .int _, hx, Nice.of (ni_N i) (by decide), ⟨(niceAll_map ni_N f.1).lay, Nat.le_trans (niceAll_map ni_N f.1).dep (by decide)⟩, _, rfl, ?_⟩
        rw [any_map eqv_N]
        refine ite2 (fun h2 => ?_) (fun h2 => ?_)
        · have h2' : i ∈ f.1 := of_decide_eq_true h2
          refine ⟨_, rfl, _, _, _, _, rfl, rfl, .inr ha, at2, _, rfl, dN j, f.1.map dN, .int _, hx, Nice.of (ni_N j) (by decide), ⟨(niceAll_map ni_N f.1).lay, Nat.le_trans (niceAll_map ni_N f.1).dep (by decide)⟩, _, rfl, ?_⟩
          rw [any_map eqv_N]
          refine ite2 (fun h3 => ?_) (fun h3 => ?_)
          · have h3' : j ∈ f.1 := of_decide_eq_true h3
            refine ⟨_, rfl, _, rfl, _, _, rfl, ha, part_of (a := 1) rfl (by decide) (by simp), fun p1 hp1' => ?_⟩
            rw [cut_from (i := 1) _ 1 rfl]
            have s1 := same_new (o := .tup [vN i, vN j]) hp1'
            refine ⟨_, rfl, dP (i, j), f.2.map dP, TD.ofPair (p := (i, j)) upd_same, hy.mono (Same.t s1), Nice.of (ni_P (i, j)) (by decide), ⟨(niceAll_map ni_P f.2).lay, Nat.le_trans (niceAll_map ni_P f.2).dep (by decide)⟩, _, rfl, ?_⟩
            rw [any_map eqv_P]
            refine ite2 (fun h4 => ?_) (fun h4 => ?_)
            · have h4' : ¬ (i, j) ∈ f.2 := by simpa using h4
              refine ⟨_, rfl, _, rfl, _, rfl, _, rfl, _, _, rfl, s1 _ _ ha, part_of (a := 1) rfl (by decide) (by simp), fun p2 hp2' => ?_⟩
              rw [cut_from (i := 1) _ 1 rfl]
              have s2 := s1.trans (same_new (o := .tup [vN i, vN j]) hp2')
              refine ⟨one_line, fun p3 hp3' => ?_⟩
              have s3 := s2.trans (same_new (o := .tup [.ref p2]) hp3')
              refine ⟨_, _, _, _, rfl, rfl, s3 _ _ hd, upd_same, le_line (by rw [hys.length]; simp; omega), fun p4 H4 s4 hp4 => ?_⟩
              have s4' := s3.trans s4
              have t1 : TD H4 (.ref p2) (dP (i, j)) := TD.ofPair (p := (i, j)) (s4 _ _ (same_new hp3' _ _ upd_same))
              refine sortedP (f.2 ++ [(i, j)]) (.inr hp4) (by rw [List.map_append]; exact (hys.mono (Same.t s4')).snoc t1) fun p5 zs hzs hp5 => ?_
              have s5 := same_new (o := .lst zs) hp5
              refine ⟨_, _, rfl, upd_same, fun p6 hp6 => ?_⟩
              have s6 := same_new (o := .tup zs) hp6
              refine ⟨two_line, fun p7 hp7 => ?_⟩
              have s7 := same_new (o := .tup [.ref c, .ref p6]) hp7
              refine q _ _ (((s4'.trans s5).trans s6).trans s7) ?_
              show FrV _ _ (if i < j ∧ i ∈ f.1 ∧ j ∈ f.1 ∧ ¬ (i, j) ∈ f.2 then some (f.1, SWM.srtP (f.2 ++ [(i, j)])) else none)
              rw [if_pos ⟨h1', h2', h3', h4'⟩]
              exact TD.frm (f := (_, _)) upd_same (hx.mono (Same.t (((s4'.trans s5).trans s6).trans s7))) (.tup (s7 _ _ upd_same) (hzs.mono (Same.t ((s5.trans s6).trans s7))))
            · have h4' : (i, j) ∈ f.2 := by simpa using h4
              refine ⟨_, rfl, _, _, _, _, rfl, rfl, .inr (s1 _ _ ha), at0, rfl, _, rfl, ifF (sne (show ("edge" : Str) ≠ "join" by decide)) ?_⟩
              exact noN _ s1 fun z => z.2.2.2 h4'
          · have h3' : ¬ j ∈ f.1 := fun z => h3 (decide_eq_true z)
            refine ⟨_, rfl, _, _, _, _, rfl, rfl, .inr ha, at0, rfl, _, rfl, ifF (sne (show ("edge" : Str) ≠ "join" by decide)) ?_⟩
            exact noN _ (Same.refl H) fun z => h3' z.2.2.1
        · have h2' : ¬ i ∈ f.1 := fun z => h2 (decide_eq_true z)
          refine ⟨_, rfl, _, _, _, _, rfl, rfl, .inr ha, at0, rfl, _, rfl, ifF (sne (show ("edge" : Str) ≠ "join" by decide)) ?_⟩
          exact noN _ (Same.refl H) fun z => h2' z.2.1
      · have h1' : ¬ i < j := fun z => h1 (decide_eq_true (by omega))
        refine ⟨_, rfl, _, _, _, _, rfl, rfl, .inr ha, at0, rfl, _, rfl, ifF (sne (show ("edge" : Str) ≠ "join" by decide)) ?_⟩
        exact noN _ (Same.refl H) fun z => h1' z.1
    | join =>
      obtain ⟨f, g, rfl⟩ : ∃ f g, fs = [f, g] := (by cases fs with | nil => simp [SWM.ar] at hfs | cons f r => cases r with | nil => simp [SWM.ar] at hfs | cons g r => cases r with | nil => exact ⟨f, g, rfl⟩ | cons => simp [SWM.ar] at hfs)
      cases hp2 with
      | cons hf hz =>
      cases hz with
      | cons hg hz =>
      cases hz
      obtain ⟨b, x, y, rfl, hb, hx, hy⟩ := hf.frmI
      obtain ⟨b2, x2, y2, rfl, hb2, hx2, hy2⟩ := hg.frmI
      have hl2 : f.2.length ≤ 100000 := (hok f (by simp)).2
      have hl3 : g.2.length ≤ 100000 := (hok g (by simp)).2
      obtain ⟨d, ys, rfl, hd, hys⟩ := hy.tupI
      obtain ⟨d2, ys2, rfl, hd2, hys2⟩ := hy2.tupI
      have noN : ∀ H', Same H H' → ¬ (g.1 = f.1 ∧ ∀ q ∈ g.2, ¬ q ∈ f.2) → Q .non H' := fun H' ss hn => by
        refine q _ _ ss ?_
        show FrV _ _ (if g.1 = f.1 ∧ ∀ q ∈ g.2, ¬ q ∈ f.2 then some (f.1, SWM.srtP (f.2 ++ g.2)) else none)
        rw [if_neg hn]; rfl
      refine ⟨_, rfl, _, _, _, _, rfl, rfl, .inr ha, at0, rfl, _, rfl, ifF (sne (show ("join" : Str) ≠ "empty" by decide)) ?_⟩
      refine ⟨_, rfl, _, _, _, _, rfl, rfl, .inl hp1, at0, _, _, rfl, SqT.of hb, rfl, _, _, rfl, _, _, rfl, rfl, ?_⟩
      refine ⟨_, rfl, _, _, _, _, rfl, rfl, .inr ha, at0, rfl, _, rfl, ifF (sne (show ("join" : Str) ≠ "new" by decide)) ⟨_, rfl, _, _, _, _, rfl, rfl, .inr ha, at0, rfl, _, rfl, ifF (sne (show ("join" : Str) ≠ "forget" by decide)) ⟨_, rfl, _, _, _, _, rfl, rfl, .inr ha, at0, rfl, _, rfl, ifF (sne (show ("join" : Str) ≠ "edge" by decide)) ⟨_, rfl, _, _, _, _, rfl, rfl, .inr ha, at0, rfl, _, rfl, ifT (seq rfl) ?_⟩⟩⟩⟩
      refine ⟨_, rfl, _, _, _, _, rfl, rfl, .inl hp1, at1, _, _, _, _, rfl, rfl, .inr hb2, at0, _, rfl, dNs g.1, dNs f.1, hx2, hx, Nice.of (ni_Ns _) (by decide), Nice.of (ni_Ns _) (by decide), _, rfl, ?_⟩
      rw [eqv_Ns]
      refine ite2 (fun h1 => ?_) (fun h1 => ?_)
      · have h1' : g.1 = f.1 := of_decide_eq_true h1
        refine ⟨_, rfl, _, _, _, _, rfl, rfl, .inl hp1, at1, _, _, _, _, rfl, rfl, .inr hb2, at1, _, rfl, ⟨_, SqT.of hd2⟩, fun D hD => lc_td (walk_tup (xs := ys2)) hD (outM g.2 (fun q => .bool (decide (q ∈ f.2)))) outM_0 (fun H h => SqT.of (h _ _ hd2)) ?_ ?_⟩
        · rintro k x H2 H2' hj pl2 ⟨rfl, hx⟩
          obtain ⟨dd, hn, hxd⟩ := hys2.getV hx
          obtain ⟨pr, hpr, rfl⟩ := map_at hn
          refine ⟨rfl, _, rfl, _, rfl, dP pr, f.2.map dP, hxd.mono (Same.t pl2.1), hy.mono (Same.t pl2.1), Nice.of (ni_P pr) (by decide), ⟨(niceAll_map ni_P f.2).lay, Nat.le_trans (niceAll_map ni_P f.2).dep (by decide)⟩, ?_⟩
          rw [any_map eqv_P, outM_yes hpr]
          refine pl2.add hD (Same.refl _) TD.blp (lt_line (by have := outM_len (l := g.2) (f := fun q => PyData.bool (decide (q ∈ f.2))) (i := k); omega))
        · intro H2 pl2
          rw [show ys2.length = g.2.length by rw [hys2.length]; simp, outM_all, show g.2.map (fun q => PyData.bool (decide (q ∈ f.2))) = (g.2.map fun q => decide (q ∈ f.2)).map PyData.bool by simp] at pl2
          have s2 := pl2.1
          refine ⟨D, _, rfl, pl2.bools, _, rfl, ?_⟩
          have ea : (g.2.map fun q => decide (q ∈ f.2)).any id = decide (∃ q ∈ g.2, q ∈ f.2) := by
            rw [Bool.eq_iff_iff]; simp
          rw [ea]
          refine ite2 (fun h2 => ?_) (fun h2 => ?_)
          · have h2' : ∀ q ∈ g.2, ¬ q ∈ f.2 := fun q hq hf => by
              have : ¬ ∃ q ∈ g.2, q ∈ f.2 := by simpa using h2
              exact this ⟨q, hq, hf⟩
            refine ⟨_, rfl, _, rfl, _, rfl, _, _, _, _, rfl, rfl, .inl (s2 _ _ hp1), at1, _, _, _, _, rfl, rfl, .inr (s2 _ _ hb2), at1, _, _, _, _, rfl, rfl, s2 _ _ hd, s2 _ _ hd2, le_line (by rw [hys.length, hys2.length]; simp; omega), fun p4 H4 s4 hp4 => ?_⟩
            have s4' := s2.trans s4
            refine sortedP (f.2 ++ g.2) (.inr hp4) (by rw [List.map_append]; exact (hys.append hys2).mono (Same.t s4')) fun p5 zs hzs hp5 => ?_
            have s5 := same_new (o := .lst zs) hp5
            refine ⟨_, _, rfl, upd_same, fun p6 hp6 => ?_⟩
            have s6 := same_new (o := .tup zs) hp6
            refine ⟨two_line, fun p7 hp7 => ?_⟩
            have s7 := same_new (o := .tup [x, .ref p6]) hp7
            refine q _ _ (((s4'.trans s5).trans s6).trans s7) ?_
            show FrV _ _ (if g.1 = f.1 ∧ ∀ q ∈ g.2, ¬ q ∈ f.2 then some (f.1, SWM.srtP (f.2 ++ g.2)) else none)
            rw [if_pos ⟨h1', h2'⟩]
            exact TD.frm (f := (_, _)) upd_same (hx.mono (Same.t (((s4'.trans s5).trans s6).trans s7))) (.tup (s7 _ _ upd_same) (hzs.mono (Same.t ((s5.trans s6).trans s7))))
          · have h2' : ∃ q ∈ g.2, q ∈ f.2 := by simpa using h2
            refine noN _ s2 fun z => ?_
            obtain ⟨q, h3, h4⟩ := h2'
            exact z.2 q h3 h4
      · exact noN _ (Same.refl H) fun z => h1 (decide_eq_true z.1)
end
end SW


set_option maxRecDepth 100000
set_option maxHeartbeats 2000000
/-! frames_of, check_term, most_labels, operands. -/
namespace SW
open PySem PySem.Spec PyProof.Rows L2
theorem LD.take {H H' : Hp} {p r : Addr} {ds : List PyData} {vs : List V} {n : Nat} (h : TDs H vs ds) (s : SameT H H') (e : H' r = some (.lst (vs.take n))) : LD H' r (ds.take n) := ⟨_, e, (h.take n).mono s⟩
section
variable {P : Program} {w : World} {K : PySem.W.Frag} {mg : Str → Option Value} {base : Heap}
/-- a term that the walks take -/
structure TermOk (T : List SWM.Stp) (k : Nat) : Prop where
  term : ∃ f, SWM.IsTerm T k f
  few : T.length ≤ 20000
  k12 : k ≤ 12
def sp_frames_of : Sp := fun vs H Q _ => ∃ (v : V) (T : List SWM.Stp) (k : Nat), vs = [v, vN k] ∧ TD H v (dT T) ∧ TermOk T k ∧ ∀ H' p, Same H H' → LD H' p ((SWM.frs T []).map dF) → Q (.ref p) H'
theorem ok_frames_of (T : Txt K mg w) : FnOk P w K mg base CX0 3 T.f_frames_of T.fd_frames_of ["term", "k"] sp_frames_of := by
  refine T.F_frames_of.ok sc_frames_of (fun vs H Q E h => ?_) (fun cdv A outer s H vs Q E hr h => ?_)
  · obtain ⟨v, tm, k, rfl, _⟩ := h
    rfl
  · obtain ⟨v, tm, k, rfl, hv, ⟨⟨f, ht⟩, hfew, hk12⟩, q⟩ := h
    obtain ⟨a, vt, rfl, ha, hvt⟩ := hv.tupI
    have hvl : vt.length = tm.length := by rw [hvt.length]; simp
    have hu := hu65 hr
    obtain ⟨t1, h_MOST_STEPS⟩ := T.i_MOST_STEPS
    obtain ⟨t2, h_MOST_LABEL⟩ := T.i_MOST_LABEL
    refine ⟨_, PSs.nox (pss_cons (ps_if (PW.pt (pw_or (pt_not (pt_val (pe_callB call_isi rfl T.z_isinstance boot_isinstance (pa_cons (pv 0) (pa_cons (pe_bltn (v := .ty "tuple") rfl T.z_tuple boot_tuple rfl) pa_nil))))) (pw_or (pt_cmpR op_gt (pe_callB cr_len rfl T.z_len boot_len (pa_cons (pv 0) pa_nil)) (pe_glob (v := .int 20000) rfl h_MOST_STEPS ⟨_, rfl⟩) (by first | exact nomark _ | with_unfolding_all rfl)) (pw_or1 (pt_not (pt_val (pe_call (ok_is_integer T) (hr.mono (by decide)) rfl T.g_is_integer T.F_is_integer.kp (b_is_integer T) .nil pass0 (pa_cons (pv 1) (pa_cons pe_int (pa_cons (pe_glob (v := .int 12) rfl h_MOST_LABEL ⟨_, rfl⟩) pa_nil))))))))))
    (pss_one ps_never)
    pss_nil)
    (pss_cons (ps_par (i := 2) (j := 3) (by rfl) sc_frames_of.nd rfl rfl (by decide) rfl rfl (pa_cons (pe_lst pa_nil) (pa_cons (pe_lst pa_nil) pa_nil)) (by rfl))
    (pss_cons (ps_for PassesOwn.never rfl (pi_enumT rfl T.z_enumerate (pa_cons (pv 0) pa_nil)) (pg_tup rfl (pgs_cons (pg_name (i := 4) sc_frames_of.nd rfl (Or.inl rfl)) (pgs_cons (pg_name (i := 5) sc_frames_of.nd rfl (Or.inl rfl)) pgs_nil)))
    (pss_cons (ps_if (PW.pt (pw_or (pt_not (pt_val (pe_call (ok_is_step T) (hr.mono (by decide)) rfl T.g_is_step T.F_is_step.kp (b_is_step T) .nil pass0 (pa_cons (pv 5) (pa_cons (pv 1) pa_nil))))) (pw_or1 (pt_cmpR op_lt (pe_callB cr_len rfl T.z_len boot_len (pa_cons (pv 2) pa_nil)) (pe_ix (ix_OPERANDS T) (pe_glob (v := .ref T.a_OPERANDS) rfl T.g_OPERANDS rfl) (pe_ix op_ix (pv 5) pe_int (fun _ _ => rfl)) (fun _ _ => rfl)) (by first | exact nomark _ | with_unfolding_all rfl)))))
    (pss_one ps_never)
    pss_nil)
    (pss_cons (ps_set (i := 6) sc_frames_of.nd rfl (Or.inl rfl) (pe_op op_sub (pe_callB cr_len rfl T.z_len boot_len (pa_cons (pv 2) pa_nil)) (pe_ix (ix_OPERANDS T) (pe_glob (v := .ref T.a_OPERANDS) rfl T.g_OPERANDS rfl) (pe_ix op_ix (pv 5) pe_int (fun _ _ => rfl)) (fun _ _ => rfl))))
    (pss_cons (ps_set (i := 7) sc_frames_of.nd rfl (Or.inl rfl) (pe_call (ok_next_frame T) (hr.mono (by decide)) rfl T.g_next_frame T.F_next_frame.kp (b_next_frame T) .nil pass0 (pa_cons (pv 5) (pa_cons (pe_slice sl_l (pv 2) (po_some (pv 6)) po_none) pa_nil))))
    (pss_cons (ps_if (pt_cmpR op_isN (pv 7) pe_non (by first | exact nomark _ | with_unfolding_all rfl))
    (pss_one ps_never)
    pss_nil)
    (pss_cons (ps_set (i := 2) sc_frames_of.nd rfl (Or.inl rfl) (pe_op op_cat (pe_slice sl_l (pv 2) po_none (po_some (pv 6))) (pe_lst (pa_cons (pv 7) pa_nil))))
    (pss_one (ps_expr (pe_bm PySem.F.plainAttrs_list PySem.F.slot_list_append PySem.F.type_list_append mt_append (pv 3) (pa_cons (pv 7) pa_nil))))))))))
    (pss_cons (ps_if (pt_cmpR op_ne (pe_callB cr_len rfl T.z_len boot_len (pa_cons (pv 2) pa_nil)) pe_int (by first | exact nomark _ | with_unfolding_all rfl))
    (pss_one ps_never)
    pss_nil)
    (pss_one (ps_ret (pv 3)))))))
    , ?_⟩
    refine ⟨_, rfl, _, _, _, _, true, rfl, .ty _, .base (.tup ha), kit_ty (by decide +kernel), _, rfl, ?_⟩
    refine ⟨_, rfl, _, _, rfl, .inr ha, _, _, rfl, rfl, _, rfl, ifF (decide_eq_false (by rw [hvl]; omega)) ?_⟩
    refine ⟨_, rfl, _, _, _, rfl, _, rfl, ?_⟩
    refine ifF (by rw [decide_eq_true (by omega), decide_eq_true (by omega)]; rfl) ?_
    refine ⟨Nat.zero_le _, fun p0 hp0 => ⟨Nat.zero_le _, fun q0 hq0 => ⟨_, _, rfl, ?_⟩⟩⟩
    have nq : q0 ≠ p0 := (ne_of_none upd_same hq0).symm
    have s0 := (same_new (o := .lst []) hp0).trans (same_new (o := .lst []) hq0)
    have hq0' : H q0 = none := by rw [upd_ne nq] at hq0; exact hq0
    refine ⟨_, rfl, a, _, rfl, SqT.of (s0 _ _ ha), for_it (walk_enumT (xs := vt)) (fun i σ H' => ∃ (p : Addr) (o4 o5 o6 o7 : Option V) (st : List SWM.Frm), σ = [some (.ref a), some (vN k), some (.ref p), some (.ref q0), o4, o5, o6, o7] ∧ Same H H' ∧ p ≠ q0 ∧
        SWM.runF (tm.take i) [] = some st ∧ LD H' p (st.map dF) ∧ LD H' q0 ((SWM.frs (tm.take i) []).map dF))
      ⟨p0, none, none, none, none, [], rfl, s0, nq.symm, rfl, ⟨[], by rw [upd_ne nq.symm]; exact upd_same, .nil⟩, ⟨[], upd_same, .nil⟩⟩ (fun i σ H' _ ⟨_, _, _, _, _, _, _, s1, _⟩ => SqT.of (s1 _ _ ha)) ?_ ?_⟩
    · rintro i x σ H1 H1' hi ⟨p, o4, o5, o6, o7, st, rfl, s1, hpq, hrun, ⟨pv, hp1, hp2⟩, ⟨qv, hq1, hq2⟩⟩ ⟨T1, x1, x2, rfl, hT, rfl, e1, e2⟩
      obtain ⟨dd, hn, hx⟩ := hvt.getV e2
      obtain ⟨stp, hstp, rfl⟩ := map_at hn
      obtain rfl := (Option.some.inj e1).symm
      obtain ⟨st', hst', hrun'⟩ := SWM.run_at ht.run hstp hrun
      obtain ⟨hl, fr, hfr, rfl⟩ := SWM.step_inv hst'
      have hsz := SWM.run_sz _ hrun
      have hszl : (tm.take i).length ≤ 20000 := by rw [List.length_take]; omega
      have s2 := same_new (o := .tup [.int (i : Nat), x2]) hT
      have hx2 : TD _ x2 (dS stp) := hx.mono (Same.t (s1.trans s2))
      obtain ⟨b, rfl, hb⟩ := hx2.stepI
      have hp20 : st.length ≤ 20000 := by have := hsz.2; simp only [List.length_nil] at this; omega
      have hokS : SWM.okStp k stp := ht.ok _ (List.mem_of_getElem? hstp)
      have hpl : pv.length = st.length := by rw [hp2.length]; simp
      refine ⟨_, _, rfl, SqT.of upd_same, rfl, _, _, rfl, _, _, rfl, rfl, ?_⟩
      refine ⟨_, rfl, _, rfl, _, stp, k, rfl, hx2, hokS, fun H2 s3 => ?_⟩
      refine ⟨true, rfl, ?_⟩
      have hp2' := s3 _ _ (s2 _ _ hp1)
      refine ⟨_, rfl, _, _, rfl, .inl hp2', _, rfl, _, _, _, _, rfl, rfl, .inr (s3 _ _ hb), at0, stp, rfl, rfl, _, _, rfl, rfl, _, rfl, ifF (decide_eq_false (by rw [hpl]; omega)) ?_⟩
      refine ⟨_, rfl, _, _, rfl, .inl hp2', _, rfl, _, _, _, _, rfl, rfl, .inr (s3 _ _ hb), at0, stp, rfl, rfl, _, _, rfl, rfl, ?_⟩
      have hbeg : ((pv.length : Int) - ((SWM.ar stp : Nat) : Int)) = ((st.length - SWM.ar stp : Nat) : Int) := by rw [hpl]; omega
      refine ⟨_, rfl, _, rfl, _, rfl, _, rfl, _, _, rfl, hp2', fun r hr' => ?_⟩
      rw [cut_from pv _ hbeg]
      have s12 := s2.trans s3
      have s123 := s1.trans s12
      have s4 := same_new (o := .lst (pv.drop (st.length - SWM.ar stp))) hr'
      have tp : TDs _ pv (st.map dF) := hp2.mono (Same.t (s12.trans s4))
      have hq2' := s4 _ _ (s12 _ _ hq1)
      refine ⟨_, r, stp, st.drop (st.length - SWM.ar stp), rfl, hx2.mono (Same.t (s3.trans s4)), ⟨_, upd_same, by rw [List.map_drop]; exact tp.drop _⟩, by rw [List.length_drop]; omega, fun g hg => ?_, fun H5 v5 s5 hv5 => ?_⟩
      · have := SWM.sz_mem (List.mem_of_mem_drop hg)
        have e0 : SWM.sumF [] = 0 := rfl
        unfold SWM.szF at this
        exact ⟨by omega, by omega⟩
      · rw [hfr] at hv5
        have hv5' : TD H5 v5 (dF fr) := hv5
        obtain ⟨fa, fx, fy, rfl, hfa, _, _⟩ := hv5'.frmI
        refine ⟨_, rfl, rfl, _, rfl, ifF (decide_eq_false (fun z => by cases z)) ?_⟩
        have s45 := s4.trans s5
        refine ⟨_, rfl, _, rfl, _, rfl, _, _, rfl, s45 _ _ hp2', fun r6 hr6 => ?_⟩
        rw [cut_to pv _ hbeg]
        have s6 := same_new (o := .lst (pv.take (st.length - SWM.ar stp))) hr6
        refine ⟨_, rfl, one_line, fun r7 hr7 => ?_⟩
        have s7 := same_new (o := .lst [.ref fa]) hr7
        refine ⟨_, _, _, _, rfl, rfl, s7 _ _ upd_same, upd_same, le_line (by have := List.length_take_le' (st.length - SWM.ar stp) pv; simp only [List.length_cons, List.length_nil]; omega), fun r8 hr8 => ?_⟩
        have s8 := same_new (o := .lst (pv.take (st.length - SWM.ar stp) ++ [.ref fa])) hr8
        have s58 := (s45.trans s6).trans (s7.trans s8)
        have n8 : r8 ≠ q0 := (ne_of_none ((s12.trans ((s45.trans s6).trans s7)) _ _ hq1) hr8).symm
        have hqz : qv.length ≤ 20000 := by rw [hq2.length]; simp; exact Nat.le_trans (SWM.frs_len _ _) hszl
        refine ⟨_, rfl, .inl ⟨rfl, _, SqL.of ((s12.trans s58) _ _ hq1)⟩, _, rfl, q0, qv, _, rfl, rfl, (s12.trans s58) _ _ hq1, lt_line (by omega), ?_⟩
        have sall := s1.trans (s12.trans s58)
        have m1 : SameT H1 (upd (upd (upd (upd H5 r6 (.lst (pv.take (st.length - SWM.ar stp)))) r7 (.lst [.ref fa])) r8 (.lst (pv.take (st.length - SWM.ar stp) ++ [.ref fa]))) q0 (.lst (qv ++ [.ref fa]))) := (Same.t (s12.trans s58)).trans (SameT.put ((s12.trans s58) _ _ hq1) (fun _ z => by cases z))
        have m5 : SameT H5 (upd (upd (upd (upd H5 r6 (.lst (pv.take (st.length - SWM.ar stp)))) r7 (.lst [.ref fa])) r8 (.lst (pv.take (st.length - SWM.ar stp) ++ [.ref fa]))) q0 (.lst (qv ++ [.ref fa]))) := (Same.t (s6.trans (s7.trans s8))).trans (SameT.put ((s12.trans s58) _ _ hq1) (fun _ z => by cases z))
        refine ⟨r8, _, _, _, _, _, rfl, Same.put sall hq0', n8, hrun', ⟨_, by rw [upd_ne n8]; exact upd_same, ?_⟩, ⟨_, upd_same, ?_⟩⟩
        · rw [List.map_append, List.map_take]
          exact ((hp2.mono m1).take _).snoc (hv5'.mono m5)
        · rw [SWM.frs_at hstp hrun hst', List.map_append, List.getLastD_concat]
          exact (hq2.mono m1).snoc (hv5'.mono m5)
    · rintro σ H1 ⟨p, o4, o5, o6, o7, st, rfl, s1, hpq, hrun, ⟨pv, hp1, hp2⟩, hq⟩
      rw [hvl, List.take_length] at hrun hq
      have e := Option.some.inj (ht.run.symm.trans hrun)
      have hpl : pv.length = 1 := by rw [hp2.length, ← e]; simp
      refine ⟨_, rfl, _, _, rfl, .inl hp1, rfl, _, rfl, ifF (by rw [hpl]; decide) ?_⟩
      exact ⟨_, rfl, q _ _ s1 hq⟩
end
end SW


set_option maxRecDepth 100000
set_option maxHeartbeats 2000000
/-! check_term, most_labels, operands. -/
namespace SW
open PySem PySem.Spec PyProof.Rows L2
section
variable {P : Program} {w : World} {K : PySem.W.Frag} {mg : Str → Option Value} {base : Heap}
def sp_check_term : Sp := fun vs H Q _ => ∃ (v : V) (T : List SWM.Stp) (k : Nat) (f : SWM.Frm), vs = [v, vN k] ∧ TD H v (dT T) ∧ TermOk T k ∧ SWM.IsTerm T k f ∧ ∀ H' v, Same H H' → TD H' v (dF f) → Q v H'
theorem ok_check_term (T : Txt K mg w) : FnOk P w K mg base CX0 4 T.f_check_term T.fd_check_term ["term", "k"] sp_check_term := by
  refine T.F_check_term.ok sc_check_term (fun vs H Q E h => ?_) (fun cdv A outer s H vs Q E hr h => ?_)
  · obtain ⟨v, tm, k, f, rfl, _⟩ := h
    rfl
  · obtain ⟨v, tm, k, f, rfl, hv, ok, ht, q⟩ := h
    refine ⟨_, PSs.nox (pss_one (ps_ret (pe_ix op_ix (pe_call (ok_frames_of T) (hr.mono (by decide)) rfl T.g_frames_of T.F_frames_of.kp (b_frames_of T) .nil pass0 (pa_cons (pv 0) (pa_cons (pv 1) pa_nil))) (pe_un un_neg pe_int) (fun _ _ => rfl))))
    , ?_⟩
    refine ⟨_, rfl, _, rfl, v, tm, k, rfl, hv, ok, fun H' p s1 hp => ?_⟩
    obtain ⟨vs, hp1, hp2⟩ := hp
    have hl := SWM.frs_last ht.run
    have hg : ((SWM.frs tm []).map dF).getLast? = some (dF f) := by rw [List.getLast?_map, hl]; rfl
    rw [List.getLast?_eq_getElem?] at hg
    obtain ⟨u, hu1, hu2⟩ := hp2.get hg
    rw [← hp2.length, ← List.getLast?_eq_getElem?] at hu1
    exact ⟨_, rfl, _, _, _, _, rfl, rfl, .inl hp1, atL hu1, q _ _ s1 hu2⟩
def sp_most_labels : Sp := fun vs H Q _ => ∃ (v : V) (T : List SWM.Stp) (k : Nat), vs = [v, vN k] ∧ TD H v (dT T) ∧ TermOk T k ∧ ∀ H' (m : Int), Same H H' → m ≤ k + 1 → Q (.int m) H'
theorem ok_most_labels (T : Txt K mg w) : FnOk P w K mg base CX0 4 T.f_most_labels T.fd_most_labels ["term", "k"] sp_most_labels := by
  refine T.F_most_labels.ok sc_most_labels (fun vs H Q E h => ?_) (fun cdv A outer s H vs Q E hr h => ?_)
  · obtain ⟨v, tm, k, rfl, _⟩ := h
    rfl
  · obtain ⟨v, tm, k, rfl, hv, ok, q⟩ := h
    refine ⟨_, PSs.nox (pss_one (ps_ret (pe_callB (cr_maxL rfl) rfl T.z_max boot_max (pa_cons (pe_lc (own := [("labels", 2), ("_", 3)]) (g := gTup K 2 (gCons (gName 2) (gCons (gName 3) gNil))) rfl sc_most_labels.nd (pi_list (pe_call (ok_frames_of T) (hr.mono (by decide)) rfl T.g_frames_of T.F_frames_of.kp (b_frames_of T) .nil pass0 (pa_cons (pv 0) (pa_cons (pv 1) pa_nil)))) (blkOk_by (N := ["term", "k", "labels", "_"]) (sc := defScope s_most_labels) (by decide +kernel)) (fun _ _ _ _ _ => pg_tup rfl (pgs_cons (pg_name (i := 2) sc_most_labels.nd rfl (Or.inl rfl)) (pgs_cons (pg_name (i := 3) sc_most_labels.nd rfl (Or.inl rfl)) pgs_nil))) (fun _ _ _ _ _ => pts_nil) (fun _ _ _ _ _ => (pe_callB cr_len rfl T.z_len boot_len (pa_cons (pv 2) pa_nil)))) pa_nil))))
    , ?_⟩
    refine ⟨_, rfl, _, rfl, v, tm, k, rfl, hv, ok, fun H1 p s1 ⟨vs, hp1, hp2⟩ => ⟨p, rfl, ⟨_, SqL.of hp1⟩, fun D hD => lc_td (walk_list (xs := vs)) hD (outM (SWM.frs tm []) (fun g => dN g.1.length)) outM_0 (fun H h => SqL.of (h _ _ hp1)) ?_ ?_⟩⟩
    · rintro i x H2 H2' hi pl ⟨rfl, hx⟩
      obtain ⟨dd, hn, hxd⟩ := hp2.getV hx
      obtain ⟨g, hg, rfl⟩ := map_at hn
      obtain ⟨b, x1, y1, rfl, hb, hx1, hy1⟩ := (hxd.mono (Same.t pl.1)).frmI
      obtain ⟨c, rfl, hc⟩ := hx1.natsI
      refine ⟨_, _, rfl, SqT.of hb, rfl, _, _, rfl, _, _, rfl, rfl, rfl, _, rfl, _, _, rfl, .inr hc, ?_⟩
      rw [outM_yes hg]
      refine pl.add hD (Same.refl _) (by rw [List.length_map]; exact .int _) (lt_line (Nat.le_trans outM_len (Nat.le_trans (SWM.frs_len _ _) (by have := ok.few; omega))))
    · intro H2 pl
      rw [show vs.length = (SWM.frs tm []).length by rw [hp2.length]; simp, outM_all, show (SWM.frs tm []).map (fun g => dN g.1.length) = ((SWM.frs tm []).map fun g => g.1.length).map dN by simp] at pl
      have e : ((SWM.frs tm []).map fun g => g.1.length).map vN = ((SWM.frs tm []).map fun g => (g.1.length : Int)).map V.int := by simp [vN]
      have hh := pl.nats
      rw [e] at hh
      obtain ⟨f, ht⟩ := ok.term
      have hne : (SWM.frs tm []).length ≠ 0 := fun z => by
        have := SWM.frs_last ht.run
        rw [List.length_eq_zero_iff.mp z] at this; cases this
      refine ⟨D, _, rfl, hh, by rw [List.length_map]; omega, fun m hm _ => q _ _ (s1.trans pl.1) ?_⟩
      obtain ⟨g, hg, rfl⟩ := List.mem_map.mp hm
      have := ht.lens g hg
      omega
def sp_operands : Sp := fun vs H Q _ => ∃ (v : V) (T : List SWM.Stp) (k : Nat), vs = [v, vN k] ∧ TD H v (dT T) ∧ TermOk T k ∧ ∀ H' p, Same H H' → H p = none → LD H' p ((SWM.ops T [] 0).map dNs) → Q (.ref p) H'
theorem ok_operands (T : Txt K mg w) : FnOk P w K mg base CX0 5 T.f_operands T.fd_operands ["term", "k"] sp_operands := by
  refine T.F_operands.ok sc_operands (fun vs H Q E h => ?_) (fun cdv A outer s H vs Q E hr h => ?_)
  · obtain ⟨v, tm, k, rfl, _⟩ := h
    rfl
  · obtain ⟨v, tm, k, rfl, hv, ok, q⟩ := h
    refine ⟨_, PSs.nox (pss_cons (ps_expr (pe_call (ok_check_term T) (hr.mono (by decide)) rfl T.g_check_term T.F_check_term.kp (b_check_term T) .nil pass0 (pa_cons (pv 0) (pa_cons (pv 1) pa_nil))))
    (pss_cons (ps_par (i := 2) (j := 3) (by rfl) sc_operands.nd rfl rfl (by decide) rfl rfl (pa_cons (pe_lst pa_nil) (pa_cons (pe_lst pa_nil) pa_nil)) (by rfl))
    (pss_cons (ps_for PassesOwn.never rfl (pi_enumT rfl T.z_enumerate (pa_cons (pv 0) pa_nil)) (pg_tup rfl (pgs_cons (pg_name (i := 4) sc_operands.nd rfl (Or.inl rfl)) (pgs_cons (pg_name (i := 5) sc_operands.nd rfl (Or.inl rfl)) pgs_nil)))
    (pss_cons (ps_set (i := 6) sc_operands.nd rfl (Or.inl rfl) (pe_op op_sub (pe_callB cr_len rfl T.z_len boot_len (pa_cons (pv 2) pa_nil)) (pe_ix (ix_OPERANDS T) (pe_glob (v := .ref T.a_OPERANDS) rfl T.g_OPERANDS rfl) (pe_ix op_ix (pv 5) pe_int (fun _ _ => rfl)) (fun _ _ => rfl))))
    (pss_cons (ps_expr (pe_bm PySem.F.plainAttrs_list PySem.F.slot_list_append PySem.F.type_list_append mt_append (pv 3) (pa_cons (pe_callTy cr_tup rfl T.z_tuple boot_tuple (pa_cons (pe_slice sl_l (pv 2) (po_some (pv 6)) po_none) pa_nil)) pa_nil)))
    (pss_one (ps_set (i := 2) sc_operands.nd rfl (Or.inl rfl) (pe_op op_cat (pe_slice sl_l (pv 2) po_none (po_some (pv 6))) (pe_lst (pa_cons (pv 4) pa_nil))))))))
    (pss_one (ps_ret (pv 3))))))
    , ?_⟩
    obtain ⟨f, ht⟩ := ok.term
    have hfew := ok.few
    obtain ⟨a, vt, rfl, ha0, hvt0⟩ := hv.tupI
    have hvl : vt.length = tm.length := by rw [hvt0.length]; simp
    refine ⟨_, rfl, _, rfl, _, tm, k, f, rfl, hv, ok, ht, fun H0 v0 sA _ => ?_⟩
    have ha := sA _ _ ha0
    have hvt := hvt0.mono (Same.t sA)
    refine ⟨Nat.zero_le _, fun p0 hp0 => ⟨Nat.zero_le _, fun q0 hq0 => ⟨_, _, rfl, ?_⟩⟩⟩
    have nq : q0 ≠ p0 := (ne_of_none upd_same hq0).symm
    have s0 := (same_new (o := .lst []) hp0).trans (same_new (o := .lst []) hq0)
    have hq0' : H0 q0 = none := by rw [upd_ne nq] at hq0; exact hq0
    refine ⟨_, rfl, a, _, rfl, SqT.of (s0 _ _ ha), for_it (walk_enumT (xs := vt)) (fun i σ H' => ∃ (p : Addr) (o4 o5 o6 : Option V), σ = [some (.ref a), some (vN k), some (.ref p), some (.ref q0), o4, o5, o6] ∧ Same H0 H' ∧ p ≠ q0 ∧
        H' p = some (.lst ((SWM.stkO (tm.take i) [] 0).map vN)) ∧ LD H' q0 ((SWM.ops (tm.take i) [] 0).map dNs))
      ⟨p0, none, none, none, rfl, s0, nq.symm, by rw [upd_ne nq.symm]; exact upd_same, ⟨[], upd_same, .nil⟩⟩ (fun i σ H' _ ⟨_, _, _, _, _, s1, _⟩ => SqT.of (s1 _ _ ha)) ?_ ?_⟩
    · rintro i x σ H1 H1' hi ⟨p, o4, o5, o6, rfl, s1, hpq, hp1, ⟨qv, hq1, hq2⟩⟩ ⟨T1, x1, x2, rfl, hT, rfl, e1, e2⟩
      obtain ⟨dd, hn, hx⟩ := hvt.getV e2
      obtain ⟨stp, hstp, rfl⟩ := map_at hn
      obtain rfl := (Option.some.inj e1).symm
      have hil : i < tm.length := by rw [← hvl]; exact hi
      obtain ⟨st, hrun⟩ : ∃ st, SWM.runF (tm.take i) [] = some st := by
        have h2 : SWM.runF (tm.take i ++ tm.drop i) [] = some [f] := by rw [List.take_append_drop]; exact ht.run
        rw [SWM.runF_app] at h2
        cases q : SWM.runF (tm.take i) [] with
        | none => rw [q] at h2; cases h2
        | some st => exact ⟨st, rfl⟩
      obtain ⟨st', hst', hrun'⟩ := SWM.run_at ht.run hstp hrun
      obtain ⟨hl, fr, hfr, rfl⟩ := SWM.step_inv hst'
      have hsz := SWM.run_sz _ hrun
      have hszl : (tm.take i).length ≤ 20000 := by rw [List.length_take]; omega
      have hso := SWM.stkO_len (tm.take i) [] 0 hrun rfl
      generalize hsO : SWM.stkO (tm.take i) [] 0 = so at hp1 hso
      have hol : so.length ≤ 20000 := by have := hsz.2; simp only [List.length_nil] at this; omega
      have s2 := same_new (o := .tup [.int (i : Nat), x2]) hT
      have hx2 : TD _ x2 (dS stp) := hx.mono (Same.t (s1.trans s2))
      obtain ⟨b, rfl, hb⟩ := hx2.stepI
      refine ⟨_, _, rfl, SqT.of upd_same, rfl, _, _, rfl, _, _, rfl, rfl, ?_⟩
      have hp2' := s2 _ _ hp1
      have hbeg : (((so.map vN).length : Int) - ((SWM.ar stp : Nat) : Int)) = ((so.length - SWM.ar stp : Nat) : Int) := by rw [List.length_map]; omega
      refine ⟨_, rfl, _, _, rfl, .inl hp2', _, rfl, _, _, _, _, rfl, rfl, .inr hb, at0, stp, rfl, rfl, _, _, rfl, rfl, ?_⟩
      refine ⟨_, rfl, .inl ⟨rfl, _, SqL.of (s2 _ _ hq1)⟩, _, rfl, _, rfl, _, rfl, _, _, rfl, hp2', fun r hr' => ?_⟩
      rw [cut_from _ _ hbeg]
      have s3 := same_new (o := .lst ((so.map vN).drop (so.length - SWM.ar stp))) hr'
      refine ⟨_, _, rfl, upd_same, fun t ht' => ?_⟩
      have s4 := same_new (o := .tup ((so.map vN).drop (so.length - SWM.ar stp))) ht'
      have s24 := s2.trans (s3.trans s4)
      have hqz : qv.length ≤ 20000 := by rw [hq2.length, List.length_map, SWM.ops_len]; exact hszl
      refine ⟨q0, qv, _, rfl, rfl, s24 _ _ hq1, lt_line (by omega), ?_⟩
      -- stack = stack[:begin] + [index]
      have hp5 : (upd (upd (upd (upd H1 T1 (.tup [.int (i : Nat), .ref b])) r (.lst ((so.map vN).drop (so.length - SWM.ar stp)))) t (.tup ((so.map vN).drop (so.length - SWM.ar stp)))) q0 (.lst (qv ++ [.ref t]))) p = some (.lst (so.map vN)) := by rw [upd_ne hpq]; exact s24 _ _ hp1
      refine ⟨_, rfl, _, rfl, _, rfl, _, _, rfl, hp5, fun r6 hr6 => ?_⟩
      rw [cut_to _ _ hbeg]
      have s6 := same_new (o := .lst ((so.map vN).take (so.length - SWM.ar stp))) hr6
      refine ⟨_, rfl, one_line, fun r7 hr7 => ?_⟩
      have s7 := same_new (o := .lst [vN i]) hr7
      refine ⟨_, _, _, _, rfl, rfl, s7 _ _ upd_same, upd_same, le_line (by have := List.length_take_le' (so.length - SWM.ar stp) (so.map vN); rw [List.length_map] at this; simp only [List.length_cons, List.length_nil]; omega), fun r8 hr8 => ?_⟩
      have s8 := same_new (o := .lst ((so.map vN).take (so.length - SWM.ar stp) ++ [vN i])) hr8
      have s68 := s6.trans (s7.trans s8)
      have hq8 := s68 _ _ (upd_same (H := upd (upd (upd H1 T1 (.tup [.int (i : Nat), .ref b])) r (.lst ((so.map vN).drop (so.length - SWM.ar stp)))) t (.tup ((so.map vN).drop (so.length - SWM.ar stp)))) (a := q0) (o := .lst (qv ++ [.ref t])))
      have n8 : r8 ≠ q0 := (ne_of_none (s7 _ _ (s6 _ _ upd_same)) hr8).symm
      have m24 := (Same.t s24).trans ((SameT.put (u := .lst (qv ++ [.ref t])) (s24 _ _ hq1) (fun _ z => by cases z)).trans (Same.t s68))
      have m4 := (SameT.put (u := .lst (qv ++ [.ref t])) (s24 _ _ hq1) (fun _ z => by cases z)).trans (Same.t s68)
      refine ⟨r8, _, _, _, rfl, (Same.put (s1.trans s24) hq0').trans s68, n8, ?_, ⟨_, hq8, ?_⟩⟩
      · have e : tm.take (i + 1) = tm.take i ++ [stp] := by rw [List.take_add_one, hstp]; rfl
        rw [upd_same, e, SWM.stkO_snoc, hsO, List.map_append, List.map_take, List.length_take, Nat.min_eq_left (by omega)]
        simp [vN]
      · have e : tm.take (i + 1) = tm.take i ++ [stp] := by rw [List.take_add_one, hstp]; rfl
        rw [e, SWM.ops_snoc, hsO, List.map_append]
        refine (hq2.mono m24).snoc (TD.mono m4 ?_)
        refine TD.ofNats ?_
        rw [upd_same, List.map_drop]
    · rintro σ H1 ⟨p, o4, o5, o6, rfl, s1, hpq, hp1, hq⟩
      rw [hvl, List.take_length] at hq
      exact ⟨_, rfl, q _ _ (sA.trans s1) (Same.free sA hq0') hq⟩
end
end SW


set_option maxRecDepth 100000
set_option maxHeartbeats 2000000
/-! The building in the heap. -/
namespace SW
open PySem PySem.Spec PyProof.Rows L2
/-- all but the objects of S stay; the tuples stay -/
def Mv (S : List Addr) (H H' : Hp) : Prop := (∀ b o, ¬ b ∈ S → H b = some o → H' b = some o) ∧ SameT H H'
theorem Mv.refl (S : List Addr) (H : Hp) : Mv S H H := ⟨fun _ _ _ h => h, SameT.refl H⟩
theorem Mv.trans {S : List Addr} {H H1 H2 : Hp} (a : Mv S H H1) (b : Mv S H1 H2) : Mv S H H2 := ⟨fun c o n h => b.1 c o n (a.1 c o n h), a.2.trans b.2⟩
theorem Same.mv {S : List Addr} {H H' : Hp} (s : Same H H') : Mv S H H' := ⟨fun b o _ h => s b o h, Same.t s⟩
theorem Mv.put {S : List Addr} {H : Hp} {p : Addr} {o u : HO} (hp : p ∈ S) (h : H p = some o) (n : ∀ xs, o ≠ .tup xs) : Mv S H (upd H p u) :=
  ⟨fun b w nb e => by rw [upd_ne (fun z => nb (by rw [z]; exact hp))]; exact e, SameT.put h n⟩
/-- what stood at first, apart from S, stands -/
theorem Mv.same {S : List Addr} {H0 H H' : Hp} (m : Mv S H H') (s : Same H0 H) (n : ∀ a ∈ S, H0 a = none) : Same H0 H' := fun b o e => by
  refine m.1 b o (fun hb => ?_) (s b o e)
  rw [n b hb] at e; cases e
theorem upd_none {H : Hp} {a b : Addr} {o : HO} (h : upd H a o b = none) : b ≠ a ∧ H b = none := by
  have n : b ≠ a := fun z => by rw [z, upd_same] at h; cases h
  rw [upd_ne n] at h
  exact ⟨n, h⟩
/-- a list of numbers -/
def NL (S : List Addr) (H : Hp) (v : V) (l : List Nat) : Prop := ∃ a, v = .ref a ∧ ¬ a ∈ S ∧ H a = some (.lst (l.map vN))
/-- a dict of numbers -/
def ND (S : List Addr) (H : Hp) (v : V) (m : List (Nat × Nat)) : Prop := ∃ a, v = .ref a ∧ ¬ a ∈ S ∧ H a = some (.dK (kN m))
/-- a graph that is built: its sources, its order -/
def GV (S : List Addr) (H : Hp) (v : V) (g : SWM.Gr) : Prop := ∃ t x y, v = .ref t ∧ H t = some (.tup [x, y]) ∧ ND S H x g.1 ∧ NL S H y g.2
theorem NL.mv {S : List Addr} {H H' : Hp} {v : V} {l : List Nat} (h : NL S H v l) (m : Mv S H H') : NL S H' v l := by
  obtain ⟨a, e, n, q⟩ := h
  exact ⟨a, e, n, m.1 _ _ n q⟩
theorem ND.mv {S : List Addr} {H H' : Hp} {v : V} {l : List (Nat × Nat)} (h : ND S H v l) (m : Mv S H H') : ND S H' v l := by
  obtain ⟨a, e, n, q⟩ := h
  exact ⟨a, e, n, m.1 _ _ n q⟩
theorem GV.mv {S : List Addr} {H H' : Hp} {v : V} {g : SWM.Gr} (h : GV S H v g) (m : Mv S H H') : GV S H' v g := by
  obtain ⟨t, x, y, e, q, h1, h2⟩ := h
  exact ⟨t, x, y, e, m.2 _ _ q, h1.mv m, h2.mv m⟩
/-- each of vs stands for its one -/
inductive All2 {α : Type} (R : V → α → Prop) : List V → List α → Prop
  | nil : All2 R [] []
  | cons {v : V} {vs : List V} {d : α} {ds : List α} : R v d → All2 R vs ds → All2 R (v :: vs) (d :: ds)
theorem All2.mono {α : Type} {R R' : V → α → Prop} (m : ∀ v d, R v d → R' v d) : ∀ {vs : List V} {ds : List α}, All2 R vs ds → All2 R' vs ds
  | _, _, .nil => .nil
  | _, _, .cons h t => .cons (m _ _ h) (t.mono m)
theorem All2.length {α : Type} {R : V → α → Prop} : ∀ {vs : List V} {ds : List α}, All2 R vs ds → vs.length = ds.length
  | _, _, .nil => rfl
  | _, _, .cons _ t => congrArg (· + 1) t.length
theorem All2.append {α : Type} {R : V → α → Prop} : ∀ {vs us : List V} {ds es : List α}, All2 R vs ds → All2 R us es → All2 R (vs ++ us) (ds ++ es)
  | _, _, _, _, .nil, h => h
  | _, _, _, _, .cons h t, h2 => .cons h (t.append h2)
theorem All2.one {α : Type} {R : V → α → Prop} {v : V} {d : α} (h : R v d) : All2 R [v] [d] := .cons h .nil
theorem All2.getV {α : Type} {R : V → α → Prop} : ∀ {vs : List V} {ds : List α} {i : Nat} {v : V}, All2 R vs ds → vs[i]? = some v → ∃ d, ds[i]? = some d ∧ R v d
  | _, _, _, _, .nil, e => by simp at e
  | _, _, 0, _, .cons h _, e => by simp at e; subst e; exact ⟨_, rfl, h⟩
  | _, _, i + 1, v, .cons _ t, e => by
    obtain ⟨d, h1, h2⟩ := All2.getV (i := i) (v := v) t (by simpa using e)
    exact ⟨d, by simpa using h1, h2⟩
theorem All2.get {α : Type} {R : V → α → Prop} : ∀ {vs : List V} {ds : List α} {i : Nat} {d : α}, All2 R vs ds → ds[i]? = some d → ∃ v, vs[i]? = some v ∧ R v d
  | _, _, _, _, .nil, e => by simp at e
  | _, _, 0, _, .cons h _, e => by simp at e; subst e; exact ⟨_, rfl, h⟩
  | _, _, i + 1, d, .cons _ t, e => by
    obtain ⟨v, h1, h2⟩ := All2.get (i := i) (d := d) t (by simpa using e)
    exact ⟨v, by simpa using h1, h2⟩
theorem All2.split {α : Type} {R : V → α → Prop} : ∀ {ds es : List α} {vs : List V}, All2 R vs (ds ++ es) → ∃ a b, vs = a ++ b ∧ All2 R a ds ∧ All2 R b es
  | [], es, vs, h => ⟨[], vs, rfl, .nil, h⟩
  | d :: ds, es, _, h => by
    cases h with
    | cons h1 h2 =>
      obtain ⟨a, b, rfl, h3, h4⟩ := h2.split
      exact ⟨_ :: a, b, rfl, .cons h1 h3, h4⟩
theorem All2.last {α : Type} {R : V → α → Prop} {ds : List α} {d : α} {vs : List V} (h : All2 R vs (ds ++ [d])) : ∃ a v, vs = a ++ [v] ∧ All2 R a ds ∧ R v d := by
  obtain ⟨a, b, rfl, h1, h2⟩ := h.split
  cases h2 with
  | cons q1 q2 => cases q2; exact ⟨a, _, rfl, h1, q1⟩
/-- the objects of a building -/
structure BA where
  p : Addr
  dx : Addr
  ls : Addr
  db : Addr
  le : Addr
  lw : Addr
def BA.S (A : BA) : List Addr := [A.p, A.ls, A.db, A.le, A.lw]
def FLen (fs : List (Str × V)) : Prop := fs.length ≤ 5 ∨ ((fs.lookup ("_before" : Str)).isSome = true ∧ fs.length ≤ 6)
theorem putF_len_old {f : Str} {v : V} : ∀ {fs : List (Str × V)}, (fs.lookup f).isSome = true → (putF f v fs).length = fs.length
  | [], h => by simp at h
  | (g, x) :: r, h => by
    show (if g = f then (g, v) :: r else (g, x) :: putF f v r).length = r.length + 1
    by_cases e : g = f
    · rw [if_pos e]; rfl
    · rw [if_neg e]
      have e2 : (f == g) = false := beq_eq_false_iff_ne.mpr fun z => e z.symm
      have h' : (r.lookup f).isSome = true := by
        rw [List.lookup_cons, e2] at h; exact h
      show (putF f v r).length + 1 = _
      rw [putF_len_old h']
theorem putF_len_le {f : Str} {v : V} : ∀ fs : List (Str × V), (putF f v fs).length ≤ fs.length + 1
  | [] => Nat.le_refl _
  | (g, x) :: r => by
    show (if g = f then (g, v) :: r else (g, x) :: putF f v r).length ≤ r.length + 1 + 1
    split
    · simp
    · have := putF_len_le (f := f) (v := v) r
      simp only [List.length_cons]; omega
/-- the building's fields -/
structure BF (A : BA) (fs : List (Str × V)) (tok : Nat) : Prop where
  stk : fs.lookup ("_stack" : Str) = some (.ref A.ls)
  bec : fs.lookup ("_becomes" : Str) = some (.ref A.db)
  eds : fs.lookup ("_edges" : Str) = some (.ref A.le)
  tok : fs.lookup ("_tokens" : Str) = some (vN tok)
  shw : fs.lookup ("shown" : Str) = some (.ref A.lw)
  len : FLen fs
  no1 : ∀ m ∈ (["take", "_join", "_changed", "number", "finish"] : List Str), fs.lookup m = none
/-- a building at A, behind what stood at H0 -/
structure BdAt (C : Addr) (H0 H : Hp) (A : BA) (b : SWM.Bd) (bf : Option (List (Nat × Nat))) : Prop where
  same : Same H0 H
  free : ∀ a ∈ A.S, H0 a = none
  apart : A.ls ≠ A.le ∧ A.ls ≠ A.lw ∧ A.le ≠ A.lw
  ins : ∃ fs, H A.p = some (.ins C A.dx fs) ∧ BF A fs b.tok ∧ ∀ m, bf = some m → ∃ x, fs.lookup ("_before" : Str) = some x ∧ ND A.S H x m
  stk : ∃ vs, H A.ls = some (.lst vs) ∧ All2 (GV A.S H) vs b.stk
  bec : H A.db = some (.dK (kN b.bec))
  eds : LD H A.le (b.eds.map dP)
  shw : ∃ ws, H A.lw = some (.lst ws) ∧ All2 (NL A.S H) ws b.shw
end SW


set_option maxRecDepth 100000
set_option maxHeartbeats 2000000
/-! The building in the heap: what changes. -/
namespace SW
open PySem PySem.Spec PyProof.Rows L2
theorem Mv.sub {S S' : List Addr} {H H' : Hp} (m : Mv S H H') (h : ∀ a ∈ S, a ∈ S') : Mv S' H H' := ⟨fun b o n e => m.1 b o (fun z => n (h b z)) e, m.2⟩
theorem Mv.one {a : Addr} {H : Hp} {o u : HO} (h : H a = some o) (n : ∀ xs, o ≠ .tup xs) : Mv [a] H (upd H a u) := Mv.put (by simp) h n
theorem Mv.at {a b : Addr} {o : HO} {H H' : Hp} (m : Mv [a] H H') (h : H b = some o) (n : b ≠ a) : H' b = some o := m.1 b o (by simpa using n) h
/-- a dict locked while it is walked -/
theorem Mv.lock {S : List Addr} {H H' : Hp} {d : Addr} {u : HO} {o : Obj} (hd : H d = some u) (hu : ∀ xs, u ≠ .tup xs) (m : Mv S (upd H d (.frz o u)) H') (hs : ¬ d ∈ S) : Mv S H (upd H' d u) := by
  refine ⟨fun b w nb e => ?_, fun b xs e => ?_⟩
  · by_cases z : b = d
    · rw [z, upd_same, ← hd, ← e, z]
    · rw [upd_ne z]
      exact m.1 b w nb (by rw [upd_ne z]; exact e)
  · have z : b ≠ d := fun z => by rw [z, hd] at e; exact hu xs (Option.some.inj e)
    rw [upd_ne z]
    exact m.2 b xs (by rw [upd_ne z]; exact e)
theorem Same.lock {H H' : Hp} {d : Addr} {u : HO} {o : Obj} (hd : H d = some u) (m : Same (upd H d (.frz o u)) H') : Same H (upd H' d u) := fun b w e => by
  by_cases z : b = d
  · rw [z, upd_same, ← hd, ← e, z]
  · rw [upd_ne z]
    exact m b w (by rw [upd_ne z]; exact e)
section
variable {C : Addr} {H0 H H' : Hp} {A : BA} {b : SWM.Bd} {bf : Option (List (Nat × Nat))}
theorem BA.mem (A : BA) : A.p ∈ A.S ∧ A.ls ∈ A.S ∧ A.db ∈ A.S ∧ A.le ∈ A.S ∧ A.lw ∈ A.S := by simp [BA.S]
theorem BdAt.there (h : BdAt C H0 H A b bf) : ∀ a ∈ A.S, ∃ o, H a = some o := fun a ha => by
  obtain ⟨fs, e1, _⟩ := h.ins
  obtain ⟨vs, e2, _⟩ := h.stk
  obtain ⟨us, e3, _⟩ := h.eds
  obtain ⟨ws, e4, _⟩ := h.shw
  have ha' : a = A.p ∨ a = A.ls ∨ a = A.db ∨ a = A.le ∨ a = A.lw := by simpa [BA.S] using ha
  rcases ha' with z | z | z | z | z <;> rw [z]
  · exact ⟨_, e1⟩
  · exact ⟨_, e2⟩
  · exact ⟨_, h.bec⟩
  · exact ⟨_, e3⟩
  · exact ⟨_, e4⟩
theorem BdAt.fresh (h : BdAt C H0 H A b bf) {a : Addr} (n : H a = none) : ¬ a ∈ A.S := fun z => by
  obtain ⟨o, e⟩ := h.there a z
  rw [n] at e; cases e
/-- the five stand apart -/
theorem BdAt.ne (h : BdAt C H0 H A b bf) : A.p ≠ A.ls ∧ A.p ≠ A.db ∧ A.p ≠ A.le ∧ A.p ≠ A.lw ∧ A.ls ≠ A.db ∧ A.le ≠ A.db ∧ A.lw ≠ A.db := by
  obtain ⟨fs, e1, _⟩ := h.ins
  obtain ⟨vs, e2, _⟩ := h.stk
  obtain ⟨us, e3, _⟩ := h.eds
  obtain ⟨ws, e4, _⟩ := h.shw
  exact ⟨ne_of e1 e2 (by intro z; cases z), ne_of e1 h.bec (by intro z; cases z), ne_of e1 e3 (by intro z; cases z), ne_of e1 e4 (by intro z; cases z), ne_of e2 h.bec (by intro z; cases z), ne_of e3 h.bec (by intro z; cases z), ne_of e4 h.bec (by intro z; cases z)⟩
theorem LD.mv {S : List Addr} {p : Addr} {ds : List PyData} (h : LD H p ds) (m : Mv S H H') (n : ¬ p ∈ S) : LD H' p ds := by
  obtain ⟨vs, h1, h2⟩ := h
  exact ⟨vs, m.1 _ _ n h1, h2.mono m.2⟩
/-- an own object is changed: A.db -/
theorem BdAt.setBec (h : BdAt C H0 H A b bf) (m : Mv [A.db] H H') {bec : List (Nat × Nat)} (e : H' A.db = some (.dK (kN bec))) : BdAt C H0 H' A { b with bec := bec } bf := by
  obtain ⟨n1, n2, n3, n4, n5, n6, n7⟩ := h.ne
  have mS : Mv A.S H H' := m.sub fun a ha => by rw [List.mem_singleton.mp ha]; exact A.mem.2.2.1
  obtain ⟨fs, e1, f1, f2⟩ := h.ins
  obtain ⟨vs, e2, g2⟩ := h.stk
  obtain ⟨ws, e4, g4⟩ := h.shw
  exact ⟨mS.same h.same h.free, h.free, h.apart, ⟨fs, m.at e1 n2, f1, fun x hx => let ⟨y, q1, q2⟩ := f2 x hx; ⟨y, q1, q2.mv mS⟩⟩, ⟨vs, m.at e2 n5, g2.mono fun _ _ z => z.mv mS⟩, e, LD.mv h.eds m (by simpa using n6), ⟨ws, m.at e4 n7, g4.mono fun _ _ z => z.mv mS⟩⟩
theorem BdAt.setStk (h : BdAt C H0 H A b bf) (m : Mv [A.ls] H H') {stk : List SWM.Gr} {vs' : List V} (e : H' A.ls = some (.lst vs')) (ev : All2 (GV A.S H') vs' stk) : BdAt C H0 H' A { b with stk := stk } bf := by
  obtain ⟨n1, n2, n3, n4, n5, n6, n7⟩ := h.ne
  have mS : Mv A.S H H' := m.sub fun a ha => by rw [List.mem_singleton.mp ha]; exact A.mem.2.1
  obtain ⟨fs, e1, f1, f2⟩ := h.ins
  obtain ⟨ws, e4, g4⟩ := h.shw
  exact ⟨mS.same h.same h.free, h.free, h.apart, ⟨fs, m.at e1 n1, f1, fun x hx => let ⟨y, q1, q2⟩ := f2 x hx; ⟨y, q1, q2.mv mS⟩⟩, ⟨vs', e, ev⟩, m.at h.bec n5.symm, LD.mv h.eds m (by simpa using h.apart.1.symm), ⟨ws, m.at e4 h.apart.2.1.symm, g4.mono fun _ _ z => z.mv mS⟩⟩
theorem BdAt.setEds (h : BdAt C H0 H A b bf) (m : Mv [A.le] H H') {eds : List (Nat × Nat)} (e : LD H' A.le (eds.map dP)) : BdAt C H0 H' A { b with eds := eds } bf := by
  obtain ⟨n1, n2, n3, n4, n5, n6, n7⟩ := h.ne
  have mS : Mv A.S H H' := m.sub fun a ha => by rw [List.mem_singleton.mp ha]; exact A.mem.2.2.2.1
  obtain ⟨fs, e1, f1, f2⟩ := h.ins
  obtain ⟨vs, e2, g2⟩ := h.stk
  obtain ⟨ws, e4, g4⟩ := h.shw
  exact ⟨mS.same h.same h.free, h.free, h.apart, ⟨fs, m.at e1 n3, f1, fun x hx => let ⟨y, q1, q2⟩ := f2 x hx; ⟨y, q1, q2.mv mS⟩⟩, ⟨vs, m.at e2 h.apart.1, g2.mono fun _ _ z => z.mv mS⟩, m.at h.bec n6.symm, e, ⟨ws, m.at e4 h.apart.2.2.symm, g4.mono fun _ _ z => z.mv mS⟩⟩
theorem BdAt.setShw (h : BdAt C H0 H A b bf) (m : Mv [A.lw] H H') {shw : List (List Nat)} {ws' : List V} (e : H' A.lw = some (.lst ws')) (ev : All2 (NL A.S H') ws' shw) : BdAt C H0 H' A { b with shw := shw } bf := by
  obtain ⟨n1, n2, n3, n4, n5, n6, n7⟩ := h.ne
  have mS : Mv A.S H H' := m.sub fun a ha => by rw [List.mem_singleton.mp ha]; exact A.mem.2.2.2.2
  obtain ⟨fs, e1, f1, f2⟩ := h.ins
  obtain ⟨vs, e2, g2⟩ := h.stk
  exact ⟨mS.same h.same h.free, h.free, h.apart, ⟨fs, m.at e1 n4, f1, fun x hx => let ⟨y, q1, q2⟩ := f2 x hx; ⟨y, q1, q2.mv mS⟩⟩, ⟨vs, m.at e2 h.apart.2.1, g2.mono fun _ _ z => z.mv mS⟩, m.at h.bec n7.symm, LD.mv h.eds m (by simpa using h.apart.2.2), ⟨ws', e, ev⟩⟩
theorem BdAt.setIns (h : BdAt C H0 H A b bf) (m : Mv [A.p] H H') {fs : List (Str × V)} {tok : Nat} {bf' : Option (List (Nat × Nat))} (e : H' A.p = some (.ins C A.dx fs)) (f : BF A fs tok) (g : ∀ m, bf' = some m → ∃ x, fs.lookup ("_before" : Str) = some x ∧ ND A.S H' x m) : BdAt C H0 H' A { b with tok := tok } bf' := by
  obtain ⟨n1, n2, n3, n4, n5, n6, n7⟩ := h.ne
  have mS : Mv A.S H H' := m.sub fun a ha => by rw [List.mem_singleton.mp ha]; exact A.mem.1
  obtain ⟨vs, e2, g2⟩ := h.stk
  obtain ⟨ws, e4, g4⟩ := h.shw
  exact ⟨mS.same h.same h.free, h.free, h.apart, ⟨fs, e, f, g⟩, ⟨vs, m.at e2 n1.symm, g2.mono fun _ _ z => z.mv mS⟩, m.at h.bec n2.symm, LD.mv h.eds m (by simpa using n3.symm), ⟨ws, m.at e4 n4.symm, g4.mono fun _ _ z => z.mv mS⟩⟩
theorem BdAt.keep (h : BdAt C H0 H A b bf) (s : Same H H') : BdAt C H0 H' A b bf := by
  obtain ⟨fs, e1, f1, f2⟩ := h.ins
  obtain ⟨vs, e2, g2⟩ := h.stk
  obtain ⟨ws, e4, g4⟩ := h.shw
  have mS : Mv A.S H H' := Same.mv s
  exact ⟨h.same.trans s, h.free, h.apart, ⟨fs, s _ _ e1, f1, fun x hx => let ⟨y, q1, q2⟩ := f2 x hx; ⟨y, q1, q2.mv mS⟩⟩, ⟨vs, s _ _ e2, g2.mono fun _ _ z => z.mv mS⟩, s _ _ h.bec, LD.same h.eds s, ⟨ws, s _ _ e4, g4.mono fun _ _ z => z.mv mS⟩⟩
end
theorem lk_some {m : List (Nat × Nat)} {k : Nat} (h : k ∈ m.map (·.1)) : SWM.lk m k = some (SWM.lkD m k) := by
  cases e : SWM.lk m k with
  | none => exact absurd h (SWM.lk_none.mp e)
  | some v => rw [SWM.lkD_of e]
theorem dget {H : Hp} {a : Addr} {m : List (Nat × Nat)} {k : Nat} (r : Rd H a (.dK (kN m))) (h : k ∈ m.map (·.1)) : DGet H a (vN k) (some (vN (SWM.lkD m k))) :=
  .inl ⟨kN m, kI k, r, rfl, by rw [valV_kN, lk_some h]; rfl⟩
theorem dgetO {H : Hp} {a : Addr} {m : List (Nat × Nat)} {k : Nat} (r : Rd H a (.dK (kN m))) : DGet H a (vN k) ((SWM.lk m k).map vN) :=
  .inl ⟨kN m, kI k, r, rfl, by rw [valV_kN]⟩
end SW


set_option maxRecDepth 100000
set_option maxHeartbeats 2000000
/-! Building.__init__, _join, _changed, take. -/
namespace SW
open PySem PySem.Spec PyProof.Rows L2
section
variable {P : Program} {w : World} {K : PySem.W.Frag} {mg : Str → Option Value} {base : Heap}
def sp_Building___init__ (C : Addr) : Sp := fun vs H Q _ => ∃ (H0 : Hp) (p dx : Addr), vs = [.ref p] ∧ Same H0 H ∧ H0 p = none ∧ H p = some (.ins C dx []) ∧ ∀ H' A, A.p = p → BdAt C H0 H' A SWM.Bd.start none → Q .non H'
theorem ok_Building___init__ (T : Txt K mg w) : FnOk P w K mg base CX0 1 T.f_Building___init__ T.fd_Building___init__ ["self"] (sp_Building___init__ T.C_Building) := by
  refine T.F_Building___init__.ok sc_Building___init__ (fun vs H Q E h => ?_) (fun cdv A outer s H vs Q E hr h => ?_)
  · obtain ⟨H0, p, dx, rfl, _⟩ := h
    rfl
  · obtain ⟨H0, p, dx, rfl, s0, hp0, hp, q⟩ := h
    refine ⟨_, PSs.nox (pss_cons (ps_fld (pv 0) (pe_lst pa_nil) rfl)
    (pss_cons (ps_fld (pv 0) pe_dnewK rfl)
    (pss_cons (ps_fld (pv 0) (pe_lst pa_nil) rfl)
    (pss_cons (ps_fld (pv 0) pe_int rfl)
    (pss_one (ps_fld (pv 0) (pe_lst pa_nil) rfl))))))
    , ?_⟩
    refine ⟨Nat.zero_le _, fun ls hls => ?_⟩
    have n1 : p ≠ ls := ne_of_none hp hls
    refine ⟨_, rfl, p, _, dx, [], rfl, by rw [upd_ne n1]; exact hp, T.cl_Building, T.n_Building__stack, by show 0 < 1000; decide, fun db hdb => ?_⟩
    obtain ⟨n2, hdb⟩ := upd_none hdb
    obtain ⟨n3, hdb⟩ := upd_none hdb
    refine ⟨_, rfl, p, _, dx, _, rfl, by rw [upd_ne n2.symm]; exact upd_same, T.cl_Building, T.n_Building__becomes, by show 1 < 1000; decide, Nat.zero_le _, fun le hle => ?_⟩
    obtain ⟨n4, hle⟩ := upd_none hle
    obtain ⟨n5, hle⟩ := upd_none hle
    obtain ⟨_, hle⟩ := upd_none hle
    obtain ⟨n6, hle⟩ := upd_none hle
    refine ⟨_, rfl, p, _, dx, _, rfl, by rw [upd_ne n4.symm]; exact upd_same, T.cl_Building, T.n_Building__edges, by show 2 < 1000; decide, ?_⟩
    refine ⟨_, rfl, p, _, dx, _, rfl, upd_same, T.cl_Building, T.n_Building__tokens, by show 3 < 1000; decide, Nat.zero_le _, fun lw hlw => ?_⟩
    obtain ⟨n7, hlw⟩ := upd_none hlw
    obtain ⟨_, hlw⟩ := upd_none hlw
    obtain ⟨n8, hlw⟩ := upd_none hlw
    obtain ⟨_, hlw⟩ := upd_none hlw
    obtain ⟨n9, hlw⟩ := upd_none hlw
    obtain ⟨_, hlw⟩ := upd_none hlw
    obtain ⟨n10, hlw⟩ := upd_none hlw
    refine ⟨_, rfl, p, _, dx, _, rfl, by rw [upd_ne n7.symm]; exact upd_same, T.cl_Building, T.n_Building_shown, by show 4 < 1000; decide, ?_⟩
    have hls0 := s0.free hls
    have hdb0 := s0.free hdb
    have hle0 := s0.free hle
    have hlw0 := s0.free hlw
    refine q _ ⟨p, dx, ls, db, le, lw⟩ rfl ⟨?_, ?_, ⟨n6.symm, n10.symm, n8.symm⟩, ⟨_, upd_same, ⟨rfl, rfl, rfl, rfl, rfl, .inl (by show 5 ≤ 5; decide), ?_⟩, fun m z => by cases z⟩, ⟨[], ?_, .nil⟩, ?_, ⟨[], ?_, .nil⟩, ⟨[], ?_, .nil⟩⟩
    · have a1 := Same.put (o := .lst []) s0 hls0
      have a2 := Same.put (o := .ins T.C_Building dx (putF "_stack" (.ref ls) [])) a1 hp0
      have a3 := Same.put (o := .dK []) a2 hdb0
      have a4 := Same.put (o := .ins T.C_Building dx (putF "_becomes" (.ref db) (putF "_stack" (.ref ls) []))) a3 hp0
      have a5 := Same.put (o := .lst []) a4 hle0
      have a6 := Same.put (o := .ins T.C_Building dx (putF "_edges" (.ref le) (putF "_becomes" (.ref db) (putF "_stack" (.ref ls) [])))) a5 hp0
      have a7 := Same.put (o := .ins T.C_Building dx (putF "_tokens" (.int 0) (putF "_edges" (.ref le) (putF "_becomes" (.ref db) (putF "_stack" (.ref ls) []))))) a6 hp0
      have a8 := Same.put (o := .lst []) a7 hlw0
      exact Same.put a8 hp0
    · intro a ha
      have ha' : a = p ∨ a = ls ∨ a = db ∨ a = le ∨ a = lw := by simpa [BA.S] using ha
      rcases ha' with z | z | z | z | z <;> rw [z] <;> assumption
    · intro m hm
      have hm' : m = "take" ∨ m = "_join" ∨ m = "_changed" ∨ m = "number" ∨ m = "finish" := by simpa only [List.mem_cons, List.not_mem_nil, or_false] using hm
      rcases hm' with z | z | z | z | z <;> subst z <;> rfl
    · simp [upd, n1.symm, n3.symm, n6.symm, n10.symm]
    · simp [upd, n2, n5.symm, n9.symm, SWM.Bd.start, kN]
    · simp [upd, n4, n8.symm]
    · simp [upd, n7]
theorem nd2 {P Q : Prop} (h : P ∧ Q) : P ∧ Q := h
/-! ### _join -/
def sp_Building__join (C : Addr) : Sp := fun vs H Q _ => ∃ (H0 : Hp) (A : BA) (b : SWM.Bd) (bf : Option (List (Nat × Nat))) (vl vu : V) (lo up : SWM.Gr), vs = [.ref A.p, vl, vu] ∧ BdAt C H0 H A b bf ∧ GV A.S H vl lo ∧ GV A.S H vu up ∧
  (∀ x ∈ up.1.map (·.1), x ∈ lo.1.map (·.1)) ∧ (up.1.map (·.1)).Nodup ∧ (b.bec.map (·.1)).Nodup ∧ b.bec.length + up.1.length + up.2.length + lo.2.length ≤ 100000 ∧
  ∀ H' v, Mv A.S H H' → BdAt C H0 H' A { b with bec := SWM.joinB b.bec lo.1 up.1 } bf → GV A.S H' v (SWM.joinG lo up) → Q v H'
theorem ok_Building__join (T : Txt K mg w) : FnOk P w K mg base CX0 1 T.f_Building__join T.fd_Building__join ["self", "lower", "upper"] (sp_Building__join T.C_Building) := by
  refine T.F_Building__join.ok sc_Building__join (fun vs H Q E h => ?_) (fun cdv A0 outer s H vs Q E hr h => ?_)
  · obtain ⟨H0, A, b, bf, vl, vu, lo, up, rfl, _⟩ := h
    rfl
  · obtain ⟨H0, A, b, bf, vl, vu, lo, up, rfl, hbd, hlo, hup, hsub, hnd, hbn, hsz, q⟩ := h
    have hu := hu65 hr
    have hu1 := hu_of hr
    refine ⟨_, PSs.nox (pss_cons (ps_lock (ps_for PassesOwn.never rfl (pi_keys (pe_ix op_ix (pv 2) pe_int (fun _ _ => rfl))) (pg_name (i := 3) sc_Building__join.nd rfl (Or.inl rfl))
    (pss_one (ps_dput hu1 (pe_f (C := T.C_Building) (pv 0) T.cl_Building T.n_Building__becomes) (pe_dget hu1 (pe_ix op_ix (pv 2) pe_int (fun _ _ => rfl)) (pv 3) (fun _ _ => rfl)) (pe_dget hu1 (pe_ix op_ix (pv 1) pe_int (fun _ _ => rfl)) (pv 3) (fun _ _ => rfl)) rfl))))
    (pss_cons (ps_set (i := 4) sc_Building__join.nd rfl (Or.inr rfl) (pe_lock (pe_lc (own := [("label", 3)]) (g := gName 3) rfl sc_Building__join.nd (pi_keys (pe_ix op_ix (pv 2) pe_int (fun _ _ => rfl))) (blkOk_by (N := ["self", "lower", "upper", "label", "marked", "token"]) (sc := defScope s_Building__join) (by decide +kernel)) (fun _ _ _ _ _ => pg_name (i := 3) sc_Building__join.nd rfl (Or.inl rfl)) (fun _ _ _ _ _ => pts_nil) (fun _ _ _ _ _ => pe_dget hu1 (pe_ix op_ix (pv 2) pe_int (fun _ _ => rfl)) (pv 3) (fun _ _ => rfl)))))
    (pss_one (ps_ret (pe_tup (pa_cons (pe_ix op_ix (pv 1) pe_int (fun _ _ => rfl)) (pa_cons (pe_op op_cat (pe_ix op_ix (pv 1) pe_int (fun _ _ => rfl)) (pe_lc (own := [("token", 5)]) (g := gName 5) rfl sc_Building__join.nd (pi_list (pe_ix op_ix (pv 2) pe_int (fun _ _ => rfl))) (blkOk_by (N := ["self", "lower", "upper", "label", "marked", "token"]) (sc := defScope s_Building__join) (by decide +kernel)) (fun _ _ _ _ _ => pg_name (i := 5) sc_Building__join.nd rfl (Or.inl rfl)) (fun _ _ _ _ _ => pts_one (pt_cmpR (op_notInL (Nat.lt_of_succ_lt hu)) (pv 5) (pv 4) (by first | exact nomark _ | with_unfolding_all rfl))) (fun _ _ _ _ _ => (pv 5)))) pa_nil)))))))
    , ?_⟩
    obtain ⟨tl, xl, yl, rfl, htl, ⟨dl, rfl, ndl, hdl⟩, ⟨ol, rfl, nol, hol⟩⟩ := hlo
    obtain ⟨tu, xu, yu, rfl, htu, ⟨du, rfl, ndu, hdu⟩, ⟨ou, rfl, nou, hou⟩⟩ := hup
    have hdb := hbd.bec
    have ndb : du ≠ A.db := fun z => ndu (by rw [z]; exact A.mem.2.2.1)
    have ndb2 : dl ≠ A.db := fun z => ndl (by rw [z]; exact A.mem.2.2.1)
    obtain ⟨fs, hins, hbf, _⟩ := id hbd.ins
    obtain ⟨m1, m2, m3, m4, m5, m6, m7⟩ := hbd.ne
    refine ⟨du, _, hdu, True.intro, fun od => ?_⟩
    have fu : ∀ b o, b ≠ du → H b = some o → (upd H du (.frz od (.dK (kN up.1)))) b = some o := fun b o n e => by rw [upd_ne n]; exact e
    have rdl : Rd (upd H du (.frz od (.dK (kN up.1)))) dl (.dK (kN lo.1)) := by
      by_cases z : dl = du
      · subst z
        have e : HO.dK (kN lo.1) = .dK (kN up.1) := Option.some.inj (hdl.symm.trans hdu)
        rw [e]
        exact .inr ⟨od, upd_same⟩
      · exact .inl (fu _ _ z hdl)
    have ntu : tu ≠ du := ne_of htu hdu (by intro z; cases z)
    have ntl : tl ≠ du := ne_of htl hdu (by intro z; cases z)
    refine ⟨_, rfl, _, _, _, _, rfl, rfl, .inr (fu _ _ ntu htu), at0, du, od, rfl, .inl ⟨_, upd_same, for_it walk_keys (fun i σ H' => ∃ (o3 o4 o5 : Option V), σ = [some (.ref A.p), some (.ref tl), some (.ref tu), o3, o4, o5] ∧ Mv [A.db] (upd H du (.frz od (.dK (kN up.1)))) H' ∧ H' A.db = some (.dK (kN (SWM.joinB b.bec lo.1 (up.1.take i)))))
      ⟨none, none, none, rfl, Mv.refl _ _, fu _ _ ndb.symm hdb⟩ (fun i σ H' _ ⟨_, _, _, _, mv, _⟩ => mv.at upd_same ndb) ?_ ?_⟩⟩
    · rintro i x σ H1 H1' hi ⟨o3, o4, o5, rfl, mv, hb1⟩ ⟨rfl, k, v, hkv, rfl⟩
      obtain ⟨pr, hpr, hkp⟩ : ∃ pr, up.1[i]? = some pr ∧ (k, v) = (kI pr.1, vN pr.2) := by
        have hkv' : (up.1.map fun p : Nat × Nat => (kI p.1, vN p.2))[i]? = some (k, v) := hkv
        rw [List.getElem?_map] at hkv'
        cases e : up.1[i]? with
        | none => rw [e] at hkv'; cases hkv'
        | some pr => rw [e] at hkv'; exact ⟨pr, rfl, (Option.some.inj hkv').symm⟩
      obtain ⟨rfl, rfl⟩ := Prod.mk.inj hkp
      have hmem : pr ∈ up.1 := List.mem_of_getElem? hpr
      have hin : pr.1 ∈ up.1.map (·.1) := List.mem_map_of_mem hmem
      have rdl' : Rd H1' dl (.dK (kN lo.1)) := by
        rcases rdl with z | ⟨o, z⟩
        · exact .inl (mv.at z ndb2)
        · exact .inr ⟨o, mv.at z ndb2⟩
      have ntldb : tl ≠ A.db := ne_of htl hdb (by intro z; cases z)
      have ntudb : tu ≠ A.db := ne_of htu hdb (by intro z; cases z)
      refine ⟨_, rfl, _, _, _, _, rfl, rfl, .inr (mv.at (fu _ _ ntl htl) ntldb), at0, _, rfl, dl, _, rfl, dget rdl' (hsub _ hin), ?_⟩
      have npdu : A.p ≠ du := ne_of hins hdu (by intro z; cases z)
      refine ⟨_, rfl, _, _, _, _, rfl, mv.at (fu _ _ npdu hins) m2, hbf.bec, ?_⟩
      refine ⟨_, rfl, _, _, _, _, rfl, rfl, .inr (mv.at (fu _ _ ntu htu) ntudb), at0, _, rfl, du, _, rfl, dget (.inr ⟨od, mv.at upd_same ndb⟩) hin, ?_⟩
      have e2 : SWM.lkD up.1 pr.1 = pr.2 := SWM.lkD_of (SWM.lk_of_mem hnd hmem)
      rw [e2]
      have hjl := SWM.joinB_len lo.1 (up.1.take i) b.bec
      have htk : (up.1.take i).length ≤ up.1.length := List.length_take_le' _ _
      refine ⟨A.db, _, rfl, DPut.k (k := kI pr.2) hb1 (lt_line (by rw [kN_len]; omega)), ?_⟩
      refine ⟨_, _, _, rfl, mv.trans (Mv.one hb1 (fun _ z => by cases z)), ?_⟩
      rw [upd_same, putK_kN (SWM.joinB_nd _ _ _ hbn)]
      have e3 : up.1.take (i + 1) = up.1.take i ++ [pr] := by rw [List.take_add_one, hpr]; rfl
      rw [e3]
      show some (HO.dK (kN _)) = some (HO.dK (kN (List.foldl _ _ _)))
      rw [List.foldl_append]; rfl
    · rintro σ H1 ⟨o3, o4, o5, rfl, mv, hb1⟩
      rw [kN_len, List.take_length] at hb1
      have hd1 : H1 du = some (.frz od (.dK (kN up.1))) := mv.at upd_same ndb
      refine ⟨hd1, ?_⟩
      -- unlocked
      have M1 : Mv [A.db] H (upd H1 du (.dK (kN up.1))) := Mv.lock hdu (fun _ z => by cases z) mv (by simpa using ndb)
      have hb2 : (upd H1 du (.dK (kN up.1))) A.db = some (.dK (kN (SWM.joinB b.bec lo.1 up.1))) := by rw [upd_ne ndb.symm]; exact hb1
      generalize hG : upd H1 du (.dK (kN up.1)) = H2 at M1 hb2
      have hdu2 : H2 du = some (.dK (kN up.1)) := M1.at hdu ndb
      have htu2 : H2 tu = some (.tup [.ref du, .ref ou]) := M1.2 _ _ htu
      have htl2 : H2 tl = some (.tup [.ref dl, .ref ol]) := M1.2 _ _ htl
      have hb' := hbd.setBec M1 hb2
      refine ⟨du, _, hdu2, True.intro, fun od2 => ?_⟩
      have ntu2 : tu ≠ du := ntu
      refine ⟨_, rfl, _, _, _, _, rfl, rfl, .inr (by rw [upd_ne ntu]; exact htu2), at0, du, od2, rfl, .inl ⟨_, upd_same, fun D hD => lc_td walk_keys hD (outM up.1 (fun p => dN p.2)) outM_0 (fun H h => h _ _ upd_same) ?_ ?_⟩⟩
      · rintro i x H3 H3' hi pl ⟨rfl, k, v, hkv, rfl⟩
        obtain ⟨pr, hpr, hkp⟩ : ∃ pr, up.1[i]? = some pr ∧ (k, v) = (kI pr.1, vN pr.2) := by
          have hkv' : (up.1.map fun p : Nat × Nat => (kI p.1, vN p.2))[i]? = some (k, v) := hkv
          rw [List.getElem?_map] at hkv'
          cases e : up.1[i]? with
          | none => rw [e] at hkv'; cases hkv'
          | some pr => rw [e] at hkv'; exact ⟨pr, rfl, (Option.some.inj hkv').symm⟩
        obtain ⟨rfl, rfl⟩ := Prod.mk.inj hkp
        have hmem : pr ∈ up.1 := List.mem_of_getElem? hpr
        have hin : pr.1 ∈ up.1.map (·.1) := List.mem_map_of_mem hmem
        have e2 : SWM.lkD up.1 pr.1 = pr.2 := SWM.lkD_of (SWM.lk_of_mem hnd hmem)
        refine ⟨rfl, _, rfl, _, _, _, _, rfl, rfl, .inr (pl.1 _ _ (by rw [upd_ne ntu]; exact htu2)), at0, _, rfl, du, _, rfl, dget (.inr ⟨od2, pl.1 _ _ upd_same⟩) hin, ?_⟩
        rw [e2, outM_yes hpr]
        exact pl.add hD (Same.refl _) (.int _) (lt_line (Nat.le_trans outM_len (by omega)))
      · intro H3 pl
        rw [kN_len, outM_all, show up.1.map (fun p => dN p.2) = (up.1.map (·.2)).map dN by simp] at pl
        have hd3 : H3 du = some (.frz od2 (.dK (kN up.1))) := pl.1 _ _ upd_same
        refine ⟨hd3, ?_⟩
        have nDdu : D ≠ du := (upd_none hD).1
        have hDm : (upd H3 du (.dK (kN up.1))) D = some (.lst ((up.1.map (·.2)).map vN)) := by rw [upd_ne nDdu]; exact pl.nats
        have S2 : Same H2 (upd H3 du (.dK (kN up.1))) := Same.lock hdu2 pl.1
        generalize upd H3 du (.dK (kN up.1)) = H4 at hDm S2
        have hb4 := hb'.keep S2
        have hdl2 : H2 dl = some (.dK (kN lo.1)) := M1.at hdl ndb2
        have nol2 : ol ≠ A.db := fun z => nol (by rw [z]; exact A.mem.2.2.1)
        have nou2 : ou ≠ A.db := fun z => nou (by rw [z]; exact A.mem.2.2.1)
        have hol4 : H4 ol = some (.lst (lo.2.map vN)) := S2 _ _ (M1.at hol nol2)
        have hou4 : H4 ou = some (.lst (up.2.map vN)) := S2 _ _ (M1.at hou nou2)
        refine ⟨_, rfl, _, _, _, _, rfl, rfl, .inr (S2 _ _ htl2), at0, _, rfl, _, _, _, _, rfl, rfl, .inr (S2 _ _ htl2), at1, _, rfl, _, _, _, _, rfl, rfl, .inr (S2 _ _ htu2), at1, _, rfl, ⟨_, SqL.of hou4⟩, fun D2 hD2 => lc_td (walk_list (xs := up.2.map vN)) hD2 (outF up.2 (fun t => decide (¬ t ∈ up.1.map (·.2))) dN) outF_0 (fun H h => SqL.of (h _ _ hou4)) ?_ ?_⟩
        · rintro i x H5 H5' hi pl5 ⟨rfl, hx⟩
          obtain ⟨n, hn, rfl⟩ := map_at hx
          refine ⟨rfl, _, rfl, _, rfl, dN n, (up.1.map (·.2)).map dN, D, .int _, rfl, LD.ofNats (pl5.1 _ _ hDm), Nice.of (ni_N n) (by decide), ⟨(niceAll_map ni_N _).lay, Nat.le_trans (niceAll_map ni_N _).dep (by decide)⟩, _, rfl, ?_⟩
          rw [any_map eqv_N]
          by_cases e : n ∈ up.1.map (·.2)
          · rw [decide_eq_true e]
            show PL _ _ _ _
            rw [outF_no hn (decide_eq_false fun z => z e)]
            exact pl5
          · rw [decide_eq_false e]
            refine ⟨_, rfl, ?_⟩
            rw [outF_yes hn (decide_eq_true e)]
            exact pl5.add hD2 (Same.refl _) (.int _) (lt_line (Nat.le_trans outF_len (by omega)))
        · intro H5 pl5
          rw [show (up.2.map vN).length = up.2.length by simp, outF_all] at pl5
          have S5 := pl5.1
          refine ⟨_, _, _, _, rfl, rfl, S5 _ _ hol4, pl5.nats, le_line (by have := List.length_filter_le (fun t => decide (¬ t ∈ up.1.map (·.2))) up.2; rw [List.length_map, List.length_map]; omega), fun pc hpc => ?_⟩
          have S6 := same_new (o := .lst (lo.2.map vN ++ (up.2.filter fun t => decide (¬ t ∈ up.1.map (·.2))).map vN)) hpc
          refine ⟨two_line, fun pt hpt => ?_⟩
          have S7 := same_new (o := .tup [.ref dl, .ref pc]) hpt
          have S27 := (S2.trans S5).trans (S6.trans S7)
          have hb7 := hb'.keep S27
          refine q _ _ ((M1.sub fun a ha => by rw [List.mem_singleton.mp ha]; exact A.mem.2.2.1).trans (Same.mv S27)) hb7 ?_
          refine ⟨pt, _, _, rfl, upd_same, ⟨dl, rfl, ndl, S27 _ _ hdl2⟩, ⟨pc, rfl, (hb4.keep S5).fresh hpc, ?_⟩⟩
          rw [S7 _ _ upd_same, ← List.map_append]; rfl
end
end SW


set_option maxRecDepth 100000
set_option maxHeartbeats 2000000
/-! sorted(dict of numbers); more of what changes. -/
namespace SW
open PySem PySem.Spec PyProof.Rows L2
theorem Mv.putN {S : List Addr} {H H' : Hp} {d : Addr} {u : HO} (m : Mv S H H') (n : H d = none) : Mv S H (upd H' d u) :=
  ⟨fun b w nb e => by rw [upd_ne (ne_of_none e n)]; exact m.1 b w nb e, fun b xs e => by rw [upd_ne (ne_of_none e n)]; exact m.2 b xs e⟩
@[irreducible] def rSortedDN : List V → Hp → VK → Prop := fun vs H Q => ∃ (a : Addr) (m : List (Nat × Nat)), vs = [.ref a] ∧ Rd H a (.dK (kN m)) ∧ ∀ (p : Addr), H p = none → Q (.ref p) (upd H p (.lst ((SWM.srtN (m.map (·.1))).map vN)))
section
variable {X : Cx}
theorem cr_sortedDN (hcalm : X.calm = true) (hu : X.A.units + 66 < cLine) : CallR X (.builtin "sorted") rSortedDN := by
  intro pins s σ H xs us Q I r q
  unfold rSortedDN at q
  obtain ⟨a, m, rfl, hd, q⟩ := q
  rw [Vals.ref1 r]
  obtain ⟨z, lo, vs, rel, dd⟩ := dk_rd I.hok hd
  obtain ⟨ep, hat⟩ := dd.dictAt
  have hkeys : vs.map (·.1) = (kN m).map (·.1) := rel.keys.symm
  have hl : vs.length = m.length := by
    have e := congrArg List.length hkeys
    rw [List.length_map, List.length_map, kN_len] at e
    exact e
  have hz : m.length ≤ sizeLine := by rw [kN_len] at z; exact z
  refine Calls.call_function_entry PyProof.Rows.kind_sorted PyProof.Rows.plain_sorted PyProof.Rows.entry_sorted (PyProof.Rows.args_sorted1 _) ?_
  unfold Builtin.«sorted»
  refine wpAny_bind (m := checkCount "sorted" 1 1 _) (wpAny_pure ?_)
  refine wpAny_bind (PySem.W.kdu_collect (A := X.A.in1) (PySem.W.kdl_dict (knd := mixKind X.prog X.w) (kvs := vs) (ep := ep) lo) (I.ok.hd hcalm) hat (by rw [hl]; exact hz) fun h' tk acc hk hacc => ?_)
  have I1 : Inv X pins σ H { s with heap := h', toks := tk } := I.kept hk
  have hal : acc.toList.length = m.length := by rw [Array.length_toList, hacc.1, hl]
  have e1 : PySem.W.EachIs (RD H dN) acc.toList (m.map (·.1)) := by
    refine PySem.W.EachIs.of_zip (by rw [hal, List.length_map]) fun p hp => ?_
    obtain ⟨j, hj⟩ := List.mem_iff_getElem?.mp hp
    rw [List.getElem?_zip_eq_some] at hj
    obtain ⟨h1, h2⟩ := hj
    rw [Array.getElem?_toList] at h1
    obtain ⟨k, x, g1, g2⟩ := hacc.2 j p.1 h1
    have g3 : (vs.map (·.1))[j]? = some k := by rw [List.getElem?_map, g1]; rfl
    rw [hkeys] at g3
    have g4 : ((kN m).map (·.1))[j]? = some (kI p.2) := by
      rw [List.getElem?_map] at h2
      cases e : m[j]? with
      | none => rw [e] at h2; cases h2
      | some y =>
        rw [e] at h2
        have h3 : y.1 = p.2 := Option.some.inj h2
        have : (kN m)[j]? = some (kI y.1, vN y.2) := by unfold kN; rw [List.getElem?_map, e]; rfl
        rw [List.getElem?_map, this, ← h3]; rfl
    rw [g4] at g3
    have e5 : kI p.2 = k := Option.some.inj g3
    subst e5
    rcases keyIs_shape (show keyIs (kI p.2) p.1 = true from g2) with ⟨i, t, ek, ev⟩ | ⟨z, t, ek, ev⟩
    · have ei : (p.2 : Int) = i := Sum.inl.inj ek
      exact ⟨vN p.2, by rw [ev, ← ei]; exact ⟨t, rfl⟩, .int _⟩
    · cases ek
  refine sort_core I1 e1 (PySem.W.AllAlike.of fun b b' => by simp [dN, PySem.W.alike]) (PySem.W.Sortable.others fun b => ⟨by simp [dN], fun xs => by simp [dN]⟩) (by rw [List.length_map]; exact hz) (fun b => by rw [Nat.le_zero.mp (ni_N b).2]; omega) hu fun p ys hy hp => ?_
  rw [le_dN] at hy
  have e := TDs.nats (ns := SWM.srtN (m.map (·.1))) hy
  rw [e]; exact q p hp
end
theorem sortedDN {H : Hp} {Q : VK} {a : Addr} {m : List (Nat × Nat)} (h : Rd H a (.dK (kN m))) (q : ∀ p, H p = none → Q (.ref p) (upd H p (.lst ((SWM.srtN (m.map (·.1))).map vN)))) : rSortedDN [.ref a] H Q := by
  unfold rSortedDN
  exact ⟨a, m, rfl, h, q⟩
/-- a statement, then the rest: what holds between them is said once -/
def tCut (t u : TS) : TS := fun D σ H => ∃ Pv : L2.St → Hp → Prop, t { D with nx := Pv } σ H ∧ ∀ σ H, Pv σ H → u D σ H
theorem pss_cut {X : Cx} {st : Stmt} {rest : List Stmt} {t u : TS} (h1 : PS X st t) (h2 : PSs X rest u) : PSs X (st :: rest) (tCut t u) := by
  refine ⟨fun pins s σ H D I h => ?_⟩
  obtain ⟨Pv, h, g⟩ := h
  refine wpAny_execs_cons (thn (h1.run pins s σ H { D with nx := Pv } I h) fun f s1 q => ?_)
  cases f with
  | next =>
    obtain ⟨σ', H', I', q⟩ := q
    exact h2.run pins s1 σ' H' D I' (g σ' H' q)
  | ret v => exact q
  | brk => exact q
  | cont => exact q
end SW


set_option maxRecDepth 100000
set_option maxHeartbeats 2000000
/-! Building._changed, take. -/
namespace SW
open PySem PySem.Spec PyProof.Rows L2
def chB (b : SWM.Bd) (g : SWM.Gr) : SWM.Stp → SWM.Bd
  | .new _ => { b with tok := b.tok + 1 }
  | .edge i j => { b with eds := b.eds ++ [(SWM.lkD g.1 i, SWM.lkD g.1 j)] }
  | _ => b
def chG (b : SWM.Bd) (g : SWM.Gr) : SWM.Stp → SWM.Gr
  | .new i => (SWM.put g.1 i b.tok, g.2 ++ [b.tok])
  | .forget i => (SWM.del g.1 i, g.2)
  | _ => g
def chF (g : SWM.Gr) : SWM.Stp → Option (List (Nat × Nat))
  | .forget _ => some g.1
  | _ => none
inductive ChOk (g : SWM.Gr) : SWM.Stp → Prop
  | new (i : Nat) : ChOk g (.new i)
  | edge (i j : Nat) : i ∈ g.1.map (·.1) → j ∈ g.1.map (·.1) → ChOk g (.edge i j)
  | forget (i : Nat) : i ∈ g.1.map (·.1) → ChOk g (.forget i)
theorem BF.tokens {A : BA} {fs : List (Str × V)} {tok tok' : Nat} (h : BF A fs tok) : BF A (putF "_tokens" (vN tok') fs) tok' := by
  have l : ∀ f : Str, f ≠ "_tokens" → (putF "_tokens" (vN tok') fs).lookup f = fs.lookup f := fun f n => by rw [lookup_putF, if_neg n]
  refine ⟨by rw [l _ (by decide)]; exact h.stk, by rw [l _ (by decide)]; exact h.bec, by rw [l _ (by decide)]; exact h.eds, by rw [lookup_putF, if_pos rfl], by rw [l _ (by decide)]; exact h.shw, ?_, fun m hm => ?_⟩
  · have e : (putF "_tokens" (vN tok') fs).length = fs.length := putF_len_old (by rw [h.tok]; rfl)
    unfold FLen
    rw [e, l _ (by decide)]; exact h.len
  · have hm' : m = "take" ∨ m = "_join" ∨ m = "_changed" ∨ m = "number" ∨ m = "finish" := by simpa only [List.mem_cons, List.not_mem_nil, or_false] using hm
    have n : m ≠ "_tokens" := by rcases hm' with z | z | z | z | z <;> subst z <;> decide
    rw [l _ n]; exact h.no1 m hm
theorem BF.before {A : BA} {fs : List (Str × V)} {tok : Nat} {x : V} (h : BF A fs tok) : BF A (putF "_before" x fs) tok := by
  have l : ∀ f : Str, f ≠ "_before" → (putF "_before" x fs).lookup f = fs.lookup f := fun f n => by rw [lookup_putF, if_neg n]
  refine ⟨by rw [l _ (by decide)]; exact h.stk, by rw [l _ (by decide)]; exact h.bec, by rw [l _ (by decide)]; exact h.eds, by rw [l _ (by decide)]; exact h.tok, by rw [l _ (by decide)]; exact h.shw, ?_, fun m hm => ?_⟩
  · refine .inr ⟨by rw [lookup_putF, if_pos rfl]; rfl, ?_⟩
    rcases h.len with z | ⟨z1, z2⟩
    · have := putF_len_le (f := "_before") (v := x) fs; omega
    · rw [putF_len_old z1]; exact z2
  · have hm' : m = "take" ∨ m = "_join" ∨ m = "_changed" ∨ m = "number" ∨ m = "finish" := by simpa only [List.mem_cons, List.not_mem_nil, or_false] using hm
    have n : m ≠ "_before" := by rcases hm' with z | z | z | z | z <;> subst z <;> decide
    rw [l _ n]; exact h.no1 m hm
theorem FLen.lt {fs : List (Str × V)} (h : FLen fs) : fs.length < 1000 := by
  rcases h with z | ⟨_, z⟩ <;> omega
section
variable {P : Program} {w : World} {K : PySem.W.Frag} {mg : Str → Option Value} {base : Heap}
def sp_Building__changed (C : Addr) : Sp := fun vs H Q _ => ∃ (H0 : Hp) (A : BA) (b : SWM.Bd) (bf : Option (List (Nat × Nat))) (v vg : V) (s : SWM.Stp) (g : SWM.Gr), vs = [.ref A.p, v, vg] ∧ BdAt C H0 H A b bf ∧ TD H v (dS s) ∧ GV A.S H vg g ∧
  ChOk g s ∧ (g.1.map (·.1)).Nodup ∧ g.1.length + g.2.length + b.eds.length ≤ 100000 ∧ ∀ H' v', Mv A.S H H' → BdAt C H0 H' A (chB b g s) (chF g s) → GV A.S H' v' (chG b g s) → Q v' H'
theorem ok_Building__changed (T : Txt K mg w) : FnOk P w K mg base CX0 1 T.f_Building__changed T.fd_Building__changed ["self", "step", "graph"] (sp_Building__changed T.C_Building) := by
  refine T.F_Building__changed.ok sc_Building__changed (fun vs H Q E h => ?_) (fun cdv A0 outer s H vs Q E hr h => ?_)
  · obtain ⟨H0, A, b, bf, v, vg, st, g, rfl, _⟩ := h
    rfl
  · obtain ⟨H0, A, b, bf, v, vg, st, g, rfl, hbd, hv, hg, hch, hnd, hsz, q⟩ := h
    have hu1 := hu_of hr
    refine ⟨_, PSs.nox (pss_cons (ps_par (i := 3) (j := 4) (by rfl) sc_Building__changed.nd rfl rfl (by decide) rfl rfl (pa_cons (pe_callTy call_dictD rfl T.z_dict boot_dict (pa_cons (pe_ix op_ix (pv 2) pe_int (fun _ _ => rfl)) pa_nil)) (pa_cons (pe_callTy cr_lst rfl T.z_list boot_list (pa_cons (pe_ix op_ix (pv 2) pe_int (fun _ _ => rfl)) pa_nil)) pa_nil)) (by rfl))
    (pss_cons (ps_if (pt_cmpR op_eq (pe_ix op_ix (pv 1) pe_int (fun _ _ => rfl)) pe_str (by first | exact nomark _ | with_unfolding_all rfl))
    (pss_cons (ps_dput hu1 (pv 3) (pe_ix op_ix (pv 1) pe_int (fun _ _ => rfl)) (pe_f (C := T.C_Building) (pv 0) T.cl_Building T.n_Building__tokens) rfl)
    (pss_cons (ps_expr (pe_bm PySem.F.plainAttrs_list PySem.F.slot_list_append PySem.F.type_list_append mt_append (pv 4) (pa_cons (pe_f (C := T.C_Building) (pv 0) T.cl_Building T.n_Building__tokens) pa_nil)))
    (pss_one (ps_fldaug (pv 0) pe_int in_add))))
    (pss_one (ps_if (pt_cmpR op_eq (pe_ix op_ix (pv 1) pe_int (fun _ _ => rfl)) pe_str (by first | exact nomark _ | with_unfolding_all rfl))
    (pss_one (ps_expr (pe_bm PySem.F.plainAttrs_list PySem.F.slot_list_append PySem.F.type_list_append mt_append (pe_f (C := T.C_Building) (pv 0) T.cl_Building T.n_Building__edges) (pa_cons (pe_tup (pa_cons (pe_dget hu1 (pv 3) (pe_ix op_ix (pv 1) pe_int (fun _ _ => rfl)) (fun _ _ => rfl)) (pa_cons (pe_dget hu1 (pv 3) (pe_ix op_ix (pv 1) pe_int (fun _ _ => rfl)) (fun _ _ => rfl)) pa_nil))) pa_nil))))
    (pss_cons (ps_fld (pv 0) (pe_callTy call_dictD rfl T.z_dict boot_dict (pa_cons (pv 3) pa_nil)) rfl)
    (pss_one (ps_ddel (pv 3) (pe_ix op_ix (pv 1) pe_int (fun _ _ => rfl))))))))
    (pss_one (ps_ret (pe_tup (pa_cons (pv 3) (pa_cons (pv 4) pa_nil)))))))
    , ?_⟩
    obtain ⟨a, rfl, ha0⟩ := hv.stepI
    obtain ⟨t, x, y, rfl, ht, ⟨dg, rfl, ndg, hdg⟩, ⟨og, rfl, nog, hog⟩⟩ := hg
    obtain ⟨fs, hins, hbf, _⟩ := id hbd.ins
    refine ⟨_, rfl, _, _, _, _, rfl, rfl, .inr ht, at0, _, _, rfl, .inl hdg, fun d hd => ?_⟩
    have s1 := same_new (o := .dK (kN g.1)) hd
    refine ⟨_, rfl, _, _, _, _, rfl, rfl, .inr (s1 _ _ ht), at1, _, _, rfl, .inl (s1 _ _ hog), fun o ho => ?_⟩
    obtain ⟨nod, ho0⟩ := upd_none ho
    have s2 := same_new (o := .lst (g.2.map vN)) ho
    have s12 := s1.trans s2
    have ha := s12 _ _ ha0
    have hdS : ¬ d ∈ A.S := hbd.fresh hd
    have hoS : ¬ o ∈ A.S := hbd.fresh ho0
    have hd2 := s2 _ _ (upd_same (H := H) (a := d) (o := .dK (kN g.1)))
    refine ⟨_, _, rfl, ?_⟩
    cases hch with
    | new i =>
      refine ⟨_, rfl, _, _, _, _, rfl, rfl, .inr ha, at0, rfl, _, rfl, ifT (seq rfl) ?_⟩
      have hins2 := s12 _ _ hins
      have ndp : A.p ≠ d := ne_of_none hins hd
      have nop : A.p ≠ o := ne_of_none hins ho0
      refine ⟨_, rfl, _, _, _, _, rfl, hins2, hbf.tok, _, rfl, _, rfl, _, _, _, _, rfl, rfl, .inr ha, at1, _, _, rfl, DPut.k (k := kI i) hd2 (lt_line (by rw [kN_len]; omega)), ?_⟩
      rw [putK_kN hnd]
      refine ⟨_, rfl, .inl ⟨rfl, _, SqL.of (by rw [upd_ne nod]; exact upd_same)⟩, _, rfl, _, _, _, _, rfl, by rw [upd_ne ndp]; exact hins2, hbf.tok, _, _, _, rfl, rfl, by rw [upd_ne nod]; exact upd_same, lt_line (by rw [List.length_map]; omega), ?_⟩
      have S3 : Same H (upd (upd (upd (upd H d (.dK (kN g.1))) o (.lst (g.2.map vN))) d (.dK (kN (SWM.put g.1 i b.tok)))) o (.lst (g.2.map vN ++ [vN b.tok]))) := Same.put (Same.put s12 hd) ho0
      refine ⟨_, rfl, _, _, _, _, _, rfl, S3 _ _ hins, T.cl_Building, T.n_Building__tokens, hbf.tok, _, _, rfl, rfl, _, _, S3 _ _ hins, hbf.len.lt, ?_⟩
      refine ⟨_, rfl, _, rfl, two_line, fun p hp => ?_⟩
      have M1 : Mv [A.p] H (upd (upd (upd (upd (upd H d (.dK (kN g.1))) o (.lst (g.2.map vN))) d (.dK (kN (SWM.put g.1 i b.tok)))) o (.lst (g.2.map vN ++ [vN b.tok]))) A.p (.ins T.C_Building A.dx (putF "_tokens" (.int ((b.tok : Int) + 1)) fs))) := (Same.mv S3).trans (Mv.one (S3 _ _ hins) (fun _ z => by cases z))
      have hb1 := hbd.setIns (tok := b.tok + 1) (bf' := none) M1 upd_same (by have := hbf.tokens (tok' := b.tok + 1); simpa [vN] using this) (fun m z => by cases z)
      have S4 := same_new (o := .tup [.ref d, .ref o]) hp
      refine q _ _ ((M1.sub fun a ha => by rw [List.mem_singleton.mp ha]; exact A.mem.1).trans (Same.mv S4)) (hb1.keep S4) ⟨p, _, _, rfl, upd_same, ⟨d, rfl, hdS, S4 _ _ ?_⟩, ⟨o, rfl, hoS, S4 _ _ ?_⟩⟩
      · rw [upd_ne ndp.symm, upd_ne nod.symm]; exact upd_same
      · rw [upd_ne nop.symm, upd_same]
        simp [chG, vN]
    | edge i j hi hj =>
      refine ⟨_, rfl, _, _, _, _, rfl, rfl, .inr ha, at0, rfl, _, rfl, ifF (sne (show ("edge" : Str) ≠ "new" by decide)) ⟨_, rfl, _, _, _, _, rfl, rfl, .inr ha, at0, rfl, _, rfl, ifT (seq rfl) ?_⟩⟩
      have hins2 := s12 _ _ hins
      obtain ⟨us, he1, he2⟩ := hbd.eds
      have he1' := s12 _ _ he1
      refine ⟨_, rfl, _, _, _, _, rfl, hins2, hbf.eds, .inl ⟨rfl, _, SqL.of he1'⟩, ?_⟩
      refine ⟨_, rfl, _, rfl, _, _, _, _, rfl, rfl, .inr ha, at1, d, _, rfl, dget (.inl hd2) hi, _, rfl, _, rfl, _, _, _, _, rfl, rfl, .inr ha, at2, d, _, rfl, dget (.inl hd2) hj, two_line, fun p hp => ?_⟩
      have S3 := s12.trans (same_new (o := .tup [vN (SWM.lkD g.1 i), vN (SWM.lkD g.1 j)]) hp)
      refine ⟨_, _, _, rfl, rfl, S3 _ _ he1, lt_line (by rw [he2.length, List.length_map]; omega), ?_⟩
      have M1 : Mv [A.le] H (upd (upd (upd (upd H d (.dK (kN g.1))) o (.lst (g.2.map vN))) p (.tup [vN (SWM.lkD g.1 i), vN (SWM.lkD g.1 j)])) A.le (.lst (us ++ [.ref p]))) := (Same.mv S3).trans (Mv.one (S3 _ _ he1) (fun _ z => by cases z))
      have hb1 := hbd.setEds (eds := b.eds ++ [(SWM.lkD g.1 i, SWM.lkD g.1 j)]) M1 ⟨_, upd_same, by
        rw [List.map_append]
        refine (he2.mono M1.2).snoc (TD.ofPair (p := (SWM.lkD g.1 i, SWM.lkD g.1 j)) ?_)
        rw [upd_ne (ne_of_none (s12 _ _ he1) hp).symm]; exact upd_same⟩
      refine ⟨_, rfl, _, rfl, two_line, fun p2 hp2 => ?_⟩
      have S4 := same_new (o := .tup [.ref d, .ref o]) hp2
      have nel : d ≠ A.le := fun z => hdS (by rw [z]; exact A.mem.2.2.2.1)
      have nel2 : o ≠ A.le := fun z => hoS (by rw [z]; exact A.mem.2.2.2.1)
      have hb2 : BdAt T.C_Building H0 _ A (chB b g (.edge i j)) none := let z := hb1.keep S4
        ⟨z.same, z.free, z.apart, let ⟨f, g1, g2, _⟩ := z.ins; ⟨f, g1, g2, fun m z => by cases z⟩, z.stk, z.bec, z.eds, z.shw⟩
      refine q _ _ ((M1.sub fun a ha => by rw [List.mem_singleton.mp ha]; exact A.mem.2.2.2.1).trans (Same.mv S4)) hb2 ⟨p2, _, _, rfl, upd_same, ⟨d, rfl, hdS, S4 _ _ ?_⟩, ⟨o, rfl, hoS, S4 _ _ ?_⟩⟩
      · rw [upd_ne nel, upd_ne (ne_of_none hd2 hp)]; exact hd2
      · rw [upd_ne nel2, upd_ne (ne_of_none upd_same hp)]; exact upd_same
    | forget i hi =>
      refine ⟨_, rfl, _, _, _, _, rfl, rfl, .inr ha, at0, rfl, _, rfl, ifF (sne (show ("forget" : Str) ≠ "new" by decide)) ⟨_, rfl, _, _, _, _, rfl, rfl, .inr ha, at0, rfl, _, rfl, ifF (sne (show ("forget" : Str) ≠ "edge" by decide)) ?_⟩⟩
      have hins2 := s12 _ _ hins
      refine ⟨_, rfl, _, _, rfl, .inl hd2, fun e he => ?_⟩
      have s3 := same_new (o := .dK (kN g.1)) he
      have S3 := s12.trans s3
      obtain ⟨neo, he'⟩ := upd_none he
      obtain ⟨ned, he0⟩ := upd_none he'
      have ndp : A.p ≠ d := ne_of_none hins hd
      have nop : A.p ≠ o := ne_of_none hins ho0
      have nep : A.p ≠ e := ne_of_none hins he0
      refine ⟨_, rfl, _, _, _, _, rfl, S3 _ _ hins, T.cl_Building, T.n_Building__before, hbf.len.lt, ?_⟩
      have hd5 : (upd (upd (upd (upd H d (.dK (kN g.1))) o (.lst (g.2.map vN))) e (.dK (kN g.1))) A.p (.ins T.C_Building A.dx (putF "_before" (.ref e) fs))) d = some (.dK (kN g.1)) := by
        rw [upd_ne ndp.symm]; exact s3 _ _ hd2
      refine ⟨_, rfl, _, rfl, _, _, _, _, rfl, rfl, .inr (by rw [upd_ne (ne_of ha hins2 (by intro z; cases z))]; exact s3 _ _ ha), at1, _, _, kI i, rfl, hd5, rfl, by rw [valV_kN, lk_some hi]; rfl, ?_⟩
      rw [dropK_kN]
      refine ⟨_, rfl, _, rfl, two_line, fun p2 hp2 => ?_⟩
      have M1 : Mv [A.p] H (upd (upd (upd (upd (upd H d (.dK (kN g.1))) o (.lst (g.2.map vN))) e (.dK (kN g.1))) A.p (.ins T.C_Building A.dx (putF "_before" (.ref e) fs))) d (.dK (kN (SWM.del g.1 i)))) := Mv.putN ((Same.mv S3).trans (Mv.one (S3 _ _ hins) (fun _ z => by cases z))) hd
      have hb1 := hbd.setIns (tok := b.tok) (bf' := some g.1) M1 (by rw [upd_ne ndp]; exact upd_same) hbf.before (fun m z => by
        cases z
        refine ⟨_, by rw [lookup_putF, if_pos rfl], e, rfl, hbd.fresh he0, ?_⟩
        rw [upd_ne ned, upd_ne nep.symm]; exact upd_same)
      have S4 := same_new (o := .tup [.ref d, .ref o]) hp2
      refine q _ _ ((M1.sub fun a ha => by rw [List.mem_singleton.mp ha]; exact A.mem.1).trans (Same.mv S4)) (hb1.keep S4) ⟨p2, _, _, rfl, upd_same, ⟨d, rfl, hdS, S4 _ _ upd_same⟩, ⟨o, rfl, hoS, S4 _ _ ?_⟩⟩
      rw [upd_ne nod, upd_ne nop.symm, upd_ne neo.symm]; exact upd_same
end
end SW


set_option maxRecDepth 100000
set_option maxHeartbeats 2000000
/-! Building.take. -/
namespace SW
open PySem PySem.Spec PyProof.Rows L2
theorem last_at {α : Type} {xs : List α} {y : α} : (xs ++ [y])[(xs ++ [y]).length - 1]? = some y := by simp
section
variable {P : Program} {w : World} {K : PySem.W.Frag} {mg : Str → Option Value} {base : Heap}
def srcOf (b : SWM.Bd) : SWM.Stp → List (Nat × Nat)
  | .forget _ => (SWM.topG b).1
  | s => (SWM.topG (SWM.takeB b s)).1
def sp_Building_take (C : Addr) : Sp := fun vs H Q _ => ∃ (H0 : Hp) (A : BA) (b : SWM.Bd) (bf : Option (List (Nat × Nat))) (v : V) (s : SWM.Stp), vs = [.ref A.p, v] ∧ BdAt C H0 H A b bf ∧ TD H v (dS s) ∧ SWM.Finds b s ∧
  (b.bec.map (·.1)).Nodup ∧ b.bec.length + SWM.sumG b.stk + b.stk.length + b.eds.length + b.shw.length ≤ 100000 ∧ ∀ H' bf', Mv A.S H H' → BdAt C H0 H' A (SWM.takeB b s) bf' → Q .non H'
/-- without what is shown -/
def midB (b : SWM.Bd) (s : SWM.Stp) : SWM.Bd := { SWM.takeB b s with shw := b.shw }
theorem src_join (b : SWM.Bd) : srcOf b .join = (SWM.sndG b).1 := by
  show (SWM.topG (SWM.takeB b .join)).1 = _
  unfold SWM.topG
  show (List.getLastD ((_ : List SWM.Gr) ++ [_]) _).1 = _
  rw [List.getLastD_concat]; rfl
theorem src_new (b : SWM.Bd) (i : Nat) : srcOf b (.new i) = SWM.put (SWM.topG b).1 i b.tok := by
  show (SWM.topG (SWM.takeB b (.new i))).1 = _
  unfold SWM.topG
  show (List.getLastD ((_ : List SWM.Gr) ++ [_]) _).1 = _
  rw [List.getLastD_concat]; rfl
theorem src_edge (b : SWM.Bd) (i j : Nat) : srcOf b (.edge i j) = (SWM.topG b).1 := by
  show (SWM.topG (SWM.takeB b (.edge i j))).1 = _
  unfold SWM.topG
  show (List.getLastD ((_ : List SWM.Gr) ++ [_]) _).1 = _
  rw [List.getLastD_concat]; rfl
theorem take_shw (b : SWM.Bd) (s : SWM.Stp) (f : SWM.Finds b s) : (SWM.takeB b s).shw = b.shw ++ [SWM.shown (srcOf b s)] := by
  cases f with
  | empty => simp [SWM.takeB, srcOf, SWM.shown, SWM.topG, SWM.srtN]
  | new i S g h => simp [SWM.takeB, srcOf, SWM.topG]
  | forget i S g h => simp [SWM.takeB, srcOf]
  | edge i j S g h => simp [SWM.takeB, srcOf, SWM.topG]
  | join S lo up h =>
    simp [SWM.takeB, srcOf, SWM.topG, SWM.joinG]
theorem src_len {b : SWM.Bd} {st : SWM.Stp} (f : SWM.Finds b st) (h : SWM.sumG b.stk ≤ 100000) : (srcOf b st).length ≤ 100001 := by
  have top : ∀ S g, b.stk = S ++ [g] → g.1.length ≤ 100000 := fun S g e => by
    rw [e, SWM.sumG_app, SWM.sumG_one] at h
    unfold SWM.szG at h
    omega
  cases f with
  | empty =>
    have e : srcOf b .empty = [] := by simp [srcOf, SWM.takeB, SWM.topG]
    rw [e]; simp
  | new i S g e =>
    rw [src_new, (SWM.top_of e).1]
    have := SWM.put_len' g.1 i b.tok
    have := top S g e
    omega
  | forget i S g e =>
    show (SWM.topG b).1.length ≤ _
    rw [(SWM.top_of e).1]
    have := top S g e
    omega
  | edge i j S g e =>
    rw [src_edge, (SWM.top_of e).1]
    have := top S g e
    omega
  | join S lo up e =>
    rw [src_join, (SWM.two_of e).2.1]
    rw [e, SWM.sumG_app] at h
    have : SWM.sumG [lo, up] = SWM.szG lo + SWM.szG up := by simp [SWM.sumG]
    simp only [SWM.szG] at this
    omega
theorem ok_Building_take (T : Txt K mg w) : FnOk P w K mg base CX0 2 T.f_Building_take T.fd_Building_take ["self", "step"] (sp_Building_take T.C_Building) := by
  refine T.F_Building_take.ok sc_Building_take (fun vs H Q E h => ?_) (fun cdv A0 outer s H vs Q E hr h => ?_)
  · obtain ⟨H0, A, b, bf, v, st, rfl, _⟩ := h
    rfl
  · obtain ⟨H0, A, b, bf, v, st, rfl, hbd, hv, hfi, hbn, hsz, q⟩ := h
    have hu := hu65 hr
    have hu1 := hu_of hr
    refine ⟨_, PSs.nox (pss_cut (ps_if (pt_cmpR op_eq (pe_ix op_ix (pv 1) pe_int (fun _ _ => rfl)) pe_str (by first | exact nomark _ | with_unfolding_all rfl))
    (pss_one (ps_expr (pe_bm PySem.F.plainAttrs_list PySem.F.slot_list_append PySem.F.type_list_append mt_append (pe_f (C := T.C_Building) (pv 0) T.cl_Building T.n_Building__stack) (pa_cons (pe_tup (pa_cons pe_dnewK (pa_cons (pe_lst pa_nil) pa_nil))) pa_nil))))
    (pss_one (ps_if (pt_cmpR op_eq (pe_ix op_ix (pv 1) pe_int (fun _ _ => rfl)) pe_str (by first | exact nomark _ | with_unfolding_all rfl))
    (pss_cons (ps_set (i := 2) sc_Building_take.nd rfl (Or.inl rfl) (pe_bm0 PySem.F.plainAttrs_list PySem.F.slot_list_pop PySem.F.type_list_pop mt_pop (pe_f (C := T.C_Building) (pv 0) T.cl_Building T.n_Building__stack)))
    (pss_one (ps_expr (pe_bm PySem.F.plainAttrs_list PySem.F.slot_list_append PySem.F.type_list_append mt_append (pe_f (C := T.C_Building) (pv 0) T.cl_Building T.n_Building__stack) (pa_cons (pe_meth (pv 0) T.cl_Building T.m_Building__join (ok_Building__join T) (hr.mono (by decide)) (b_Building__join T) .nil pass0 (pa_cons (pe_bm0 PySem.F.plainAttrs_list PySem.F.slot_list_pop PySem.F.type_list_pop mt_pop (pe_f (C := T.C_Building) (pv 0) T.cl_Building T.n_Building__stack)) (pa_cons (pv 2) pa_nil))) pa_nil)))))
    (pss_one (ps_expr (pe_bm PySem.F.plainAttrs_list PySem.F.slot_list_append PySem.F.type_list_append mt_append (pe_f (C := T.C_Building) (pv 0) T.cl_Building T.n_Building__stack) (pa_cons (pe_meth (pv 0) T.cl_Building T.m_Building__changed (ok_Building__changed T) (hr.mono (by decide)) (b_Building__changed T) .nil pass0 (pa_cons (pv 1) (pa_cons (pe_bm0 PySem.F.plainAttrs_list PySem.F.slot_list_pop PySem.F.type_list_pop mt_pop (pe_f (C := T.C_Building) (pv 0) T.cl_Building T.n_Building__stack)) pa_nil))) pa_nil)))))))
    (pss_cons (ps_set (i := 3) sc_Building_take.nd rfl (Or.inr rfl) (pe_callTy call_dictD rfl T.z_dict boot_dict (pa_cons (pe_ix op_ix (pe_ix op_ix (pe_f (C := T.C_Building) (pv 0) T.cl_Building T.n_Building__stack) (pe_un un_neg pe_int) (fun _ _ => rfl)) pe_int (fun _ _ => rfl)) pa_nil)))
    (pss_cut (ps_if (pt_cmpR op_eq (pe_ix op_ix (pv 1) pe_int (fun _ _ => rfl)) pe_str (by first | exact nomark _ | with_unfolding_all rfl))
    (pss_one (ps_set (i := 3) sc_Building_take.nd rfl (Or.inr rfl) (pe_f (C := T.C_Building) (pv 0) T.cl_Building T.n_Building__before)))
    pss_nil)
    (pss_one (ps_expr (pe_bm PySem.F.plainAttrs_list PySem.F.slot_list_append PySem.F.type_list_append mt_append (pe_f (C := T.C_Building) (pv 0) T.cl_Building T.n_Building_shown) (pa_cons (pe_lc (own := [("label", 4)]) (g := gName 4) rfl sc_Building_take.nd (pi_list (pe_callB (cr_sortedDN rfl hu) rfl T.z_sorted boot_sorted (pa_cons (pv 3) pa_nil))) (blkOk_by (N := ["self", "step", "upper", "sources", "label"]) (sc := defScope s_Building_take) (by decide +kernel)) (fun _ _ _ _ _ => pg_name (i := 4) sc_Building_take.nd rfl (Or.inl rfl)) (fun _ _ _ _ _ => pts_nil) (fun _ _ _ _ _ => (pe_dget hu1 (pv 3) (pv 4) (fun _ _ => rfl)))) pa_nil)))))))
    , ?_⟩
    obtain ⟨a, rfl, ha⟩ := hv.stepI
    obtain ⟨fs, hins, hbf, _⟩ := id hbd.ins
    obtain ⟨vs, hls, hvs⟩ := id hbd.stk
    have hvl : vs.length = b.stk.length := hvs.length
    refine ⟨fun σ H' => ∃ (o2 : Option V) (bf' : Option (List (Nat × Nat))) (S : List SWM.Gr) (g : SWM.Gr), σ = [some (.ref A.p), some (.ref a), o2, none, none] ∧ Mv A.S H H' ∧ BdAt T.C_Building H0 H' A (midB b st) bf' ∧ (midB b st).stk = S ++ [g] ∧
      (∀ i, st = .forget i → bf' = some (srcOf b st)) ∧ ((∀ i, st ≠ .forget i) → g.1 = srcOf b st), ?_, ?_⟩
    · cases hfi with
      | empty =>
        refine ⟨_, rfl, _, _, _, _, rfl, rfl, .inr ha, at0, rfl, _, rfl, ifT (seq rfl) ?_⟩
        refine ⟨_, rfl, _, _, _, _, rfl, hins, hbf.stk, .inl ⟨rfl, _, SqL.of hls⟩, fun d hd => ⟨Nat.zero_le _, fun o ho => ⟨two_line, fun p hp => ?_⟩⟩⟩
        have s1 := same_new (o := .dK []) hd
        have s2 := same_new (o := .lst []) ho
        have s3 := same_new (o := .tup [.ref d, .ref o]) hp
        have S3 := (s1.trans s2).trans s3
        obtain ⟨nod, ho0⟩ := upd_none ho
        refine ⟨_, _, _, rfl, rfl, S3 _ _ hls, lt_line (by rw [hvl]; omega), ?_⟩
        have M1 : Mv [A.ls] H (upd (upd (upd (upd H d (.dK [])) o (.lst [])) p (.tup [.ref d, .ref o])) A.ls (.lst (vs ++ [.ref p]))) := (Same.mv S3).trans (Mv.one (S3 _ _ hls) (fun _ z => by cases z))
        have mS := M1.sub (S' := A.S) fun a ha => by rw [List.mem_singleton.mp ha]; exact A.mem.2.1
        have hdS := hbd.fresh hd
        have hoS := hbd.fresh ho0
        have ndl : d ≠ A.ls := fun z => hdS (by rw [z]; exact A.mem.2.1)
        have nol : o ≠ A.ls := fun z => hoS (by rw [z]; exact A.mem.2.1)
        have npl : p ≠ A.ls := (ne_of_none ((s1.trans s2) _ _ hls) hp).symm
        have hb1 := hbd.setStk (stk := b.stk ++ [([], [])]) M1 upd_same ((hvs.mono fun _ _ z => z.mv mS).append (.one ⟨p, _, _, rfl, by rw [upd_ne npl]; exact upd_same, ⟨d, rfl, hdS, by rw [upd_ne ndl]; exact s3 _ _ (s2 _ _ upd_same)⟩, ⟨o, rfl, hoS, by rw [upd_ne nol]; exact s3 _ _ upd_same⟩⟩))
        exact ⟨none, bf, b.stk, ([], []), rfl, mS, hb1, rfl, fun i z => (by cases z), fun _ => by simp [srcOf, SWM.takeB, SWM.topG]⟩
      | join S lo up hS hn1 hn2 hsub =>
        refine ⟨_, rfl, _, _, _, _, rfl, rfl, .inr ha, at0, rfl, _, rfl, ifF (sne (show ("join" : Str) ≠ "empty" by decide)) ⟨_, rfl, _, _, _, _, rfl, rfl, .inr ha, at0, rfl, _, rfl, ifT (seq rfl) ?_⟩⟩
        obtain ⟨t1, t2, t3⟩ := SWM.two_of hS
        rw [hS, show S ++ [lo, up] = (S ++ [lo]) ++ [up] by simp] at hvs
        obtain ⟨v1, vu, rfl, hv1, hgu⟩ := hvs.last
        obtain ⟨v0, vl, rfl, hv0, hgl⟩ := hv1.last
        rw [hS, SWM.sumG_app] at hsz
        have e3 : SWM.sumG [lo, up] = SWM.szG lo + SWM.szG up := by simp [SWM.sumG]
        simp only [e3, SWM.szG] at hsz
        refine ⟨_, rfl, _, _, _, _, rfl, hins, hbf.stk, .inl ⟨rfl, _, SqL.of hls⟩, A.ls, _, vu, rfl, rfl, hls, last_at, ?_⟩
        rw [List.dropLast_concat]
        have M1 : Mv [A.ls] H (upd H A.ls (.lst (v0 ++ [vl]))) := Mv.one hls (fun _ z => by cases z)
        have m1 := M1.sub (S' := A.S) fun a ha => by rw [List.mem_singleton.mp ha]; exact A.mem.2.1
        have hb1 := hbd.setStk (stk := S ++ [lo]) M1 upd_same (hv1.mono fun _ _ z => z.mv m1)
        obtain ⟨fs1, hins1, hbf1, _⟩ := id hb1.ins
        refine ⟨_, rfl, _, _, _, _, rfl, hins1, hbf1.stk, .inl ⟨rfl, _, SqL.of upd_same⟩, ?_⟩
        refine ⟨_, rfl, _, _, _, rfl, hins1, hbf1.no1 "_join" (by simp), ?_⟩
        refine ⟨_, rfl, _, _, _, _, rfl, hins1, hbf1.stk, .inl ⟨rfl, _, SqL.of upd_same⟩, A.ls, _, vl, rfl, rfl, upd_same, last_at, ?_⟩
        rw [List.dropLast_concat]
        have M2 : Mv [A.ls] (upd H A.ls (.lst (v0 ++ [vl]))) (upd (upd H A.ls (.lst (v0 ++ [vl]))) A.ls (.lst v0)) := Mv.one upd_same (fun _ z => by cases z)
        have m2 := M2.sub (S' := A.S) fun a ha => by rw [List.mem_singleton.mp ha]; exact A.mem.2.1
        have m12 := m1.trans m2
        have hb2 := hb1.setStk (stk := S) M2 upd_same (hv0.mono fun _ _ z => z.mv m12)
        refine ⟨_, rfl, H0, A, _, bf, _, _, lo, up, rfl, hb2, hgl.mv m12, hgu.mv m12, hsub, hn1, hbn, by show b.bec.length + _ + _ + _ ≤ _; omega, fun H3 v3 m3 hb3 hg3 => ?_⟩
        obtain ⟨vs3, hls3, hvs3⟩ := id hb3.stk
        have hl3 : vs3.length = S.length := hvs3.length
        refine ⟨A.ls, vs3, v3, rfl, rfl, hls3, lt_line (by rw [hl3]; have : (S ++ [lo, up]).length = S.length + 2 := by simp
                                                           rw [hS, this] at hvl; omega), ?_⟩
        have M4 : Mv [A.ls] H3 (upd H3 A.ls (.lst (vs3 ++ [v3]))) := Mv.one hls3 (fun _ z => by cases z)
        have m4 := M4.sub (S' := A.S) fun a ha => by rw [List.mem_singleton.mp ha]; exact A.mem.2.1
        have hb4 := hb3.setStk (stk := S ++ [SWM.joinG lo up]) M4 upd_same ((hvs3.mono fun _ _ z => z.mv m4).append (.one (hg3.mv m4)))
        have em : midB b .join = { b with stk := S ++ [SWM.joinG lo up], bec := SWM.joinB b.bec lo.1 up.1 } := by
          simp only [midB, SWM.takeB, t1, t2, t3]
        rw [em]
        refine ⟨some vu, bf, S, SWM.joinG lo up, rfl, (m12.trans m3).trans m4, hb4, rfl, fun i z => (by cases z), fun _ => ?_⟩
        rw [src_join, t2]; rfl
      | new i S g hS hn =>
        refine ⟨_, rfl, _, _, _, _, rfl, rfl, .inr ha, at0, rfl, _, rfl, ifF (sne (show ("new" : Str) ≠ "empty" by decide)) ⟨_, rfl, _, _, _, _, rfl, rfl, .inr ha, at0, rfl, _, rfl, ifF (sne (show ("new" : Str) ≠ "join" by decide)) ?_⟩⟩
        obtain ⟨t1, t2⟩ := SWM.top_of hS
        rw [hS] at hvs
        obtain ⟨v0, vg, rfl, hv0, hgg⟩ := hvs.last
        rw [hS, SWM.sumG_app, SWM.sumG_one] at hsz
        simp only [SWM.szG] at hsz
        refine ⟨_, rfl, _, _, _, _, rfl, hins, hbf.stk, .inl ⟨rfl, _, SqL.of hls⟩, ?_⟩
        refine ⟨_, rfl, _, _, _, rfl, hins, hbf.no1 "_changed" (by simp), ?_⟩
        refine ⟨_, rfl, _, rfl, _, _, _, _, rfl, hins, hbf.stk, .inl ⟨rfl, _, SqL.of hls⟩, A.ls, _, vg, rfl, rfl, hls, last_at, ?_⟩
        rw [List.dropLast_concat]
        have M1 : Mv [A.ls] H (upd H A.ls (.lst v0)) := Mv.one hls (fun _ z => by cases z)
        have m1 := M1.sub (S' := A.S) fun a ha => by rw [List.mem_singleton.mp ha]; exact A.mem.2.1
        have hb1 := hbd.setStk (stk := S) M1 upd_same (hv0.mono fun _ _ z => z.mv m1)
        refine ⟨H0, A, _, bf, _, _, (.new i), g, rfl, hb1, hv.mono m1.2, hgg.mv m1, .new i, hn, by show g.1.length + g.2.length + b.eds.length ≤ _; omega, fun H3 v3 m3 hb3 hg3 => ?_⟩
        obtain ⟨vs3, hls3, hvs3⟩ := id hb3.stk
        have hl3 : vs3.length = S.length := hvs3.length
        refine ⟨A.ls, vs3, v3, rfl, rfl, hls3, lt_line (by rw [hl3]; have : (S ++ [g]).length = S.length + 1 := by simp
                                                           rw [hS, this] at hvl; omega), ?_⟩
        have M4 : Mv [A.ls] H3 (upd H3 A.ls (.lst (vs3 ++ [v3]))) := Mv.one hls3 (fun _ z => by cases z)
        have m4 := M4.sub (S' := A.S) fun a ha => by rw [List.mem_singleton.mp ha]; exact A.mem.2.1
        have hb4 := hb3.setStk (stk := S ++ [chG { b with stk := S } g (.new i)]) M4 upd_same ((hvs3.mono fun _ _ z => z.mv m4).append (.one (hg3.mv m4)))
        have em : midB b (.new i) = { chB { b with stk := S } g (.new i) with stk := S ++ [chG { b with stk := S } g (.new i)] } := by
          simp only [midB, SWM.takeB, chB, chG, t1, t2]
        rw [em]
        refine ⟨none, _, S, _, rfl, (m1.trans m3).trans m4, hb4, rfl, fun i z => (by cases z), fun _ => ?_⟩
        rw [src_new, t1]; rfl
      | forget i S g hS hn hi =>
        refine ⟨_, rfl, _, _, _, _, rfl, rfl, .inr ha, at0, rfl, _, rfl, ifF (sne (show ("forget" : Str) ≠ "empty" by decide)) ⟨_, rfl, _, _, _, _, rfl, rfl, .inr ha, at0, rfl, _, rfl, ifF (sne (show ("forget" : Str) ≠ "join" by decide)) ?_⟩⟩
        obtain ⟨t1, t2⟩ := SWM.top_of hS
        rw [hS] at hvs
        obtain ⟨v0, vg, rfl, hv0, hgg⟩ := hvs.last
        rw [hS, SWM.sumG_app, SWM.sumG_one] at hsz
        simp only [SWM.szG] at hsz
        refine ⟨_, rfl, _, _, _, _, rfl, hins, hbf.stk, .inl ⟨rfl, _, SqL.of hls⟩, ?_⟩
        refine ⟨_, rfl, _, _, _, rfl, hins, hbf.no1 "_changed" (by simp), ?_⟩
        refine ⟨_, rfl, _, rfl, _, _, _, _, rfl, hins, hbf.stk, .inl ⟨rfl, _, SqL.of hls⟩, A.ls, _, vg, rfl, rfl, hls, last_at, ?_⟩
        rw [List.dropLast_concat]
        have M1 : Mv [A.ls] H (upd H A.ls (.lst v0)) := Mv.one hls (fun _ z => by cases z)
        have m1 := M1.sub (S' := A.S) fun a ha => by rw [List.mem_singleton.mp ha]; exact A.mem.2.1
        have hb1 := hbd.setStk (stk := S) M1 upd_same (hv0.mono fun _ _ z => z.mv m1)
        refine ⟨H0, A, _, bf, _, _, (.forget i), g, rfl, hb1, hv.mono m1.2, hgg.mv m1, .forget i hi, hn, by show g.1.length + g.2.length + b.eds.length ≤ _; omega, fun H3 v3 m3 hb3 hg3 => ?_⟩
        obtain ⟨vs3, hls3, hvs3⟩ := id hb3.stk
        have hl3 : vs3.length = S.length := hvs3.length
        refine ⟨A.ls, vs3, v3, rfl, rfl, hls3, lt_line (by rw [hl3]; have : (S ++ [g]).length = S.length + 1 := by simp
                                                           rw [hS, this] at hvl; omega), ?_⟩
        have M4 : Mv [A.ls] H3 (upd H3 A.ls (.lst (vs3 ++ [v3]))) := Mv.one hls3 (fun _ z => by cases z)
        have m4 := M4.sub (S' := A.S) fun a ha => by rw [List.mem_singleton.mp ha]; exact A.mem.2.1
        have hb4 := hb3.setStk (stk := S ++ [chG { b with stk := S } g (.forget i)]) M4 upd_same ((hvs3.mono fun _ _ z => z.mv m4).append (.one (hg3.mv m4)))
        have em : midB b (.forget i) = { chB { b with stk := S } g (.forget i) with stk := S ++ [chG { b with stk := S } g (.forget i)] } := by
          simp only [midB, SWM.takeB, chB, chG, t1, t2]
        rw [em]
        exact ⟨none, _, S, _, rfl, (m1.trans m3).trans m4, hb4, rfl, fun i z => (by simp [srcOf, chF, t1]), fun h => absurd rfl (h i)⟩
      | edge i j S g hS hn hi hj =>
        refine ⟨_, rfl, _, _, _, _, rfl, rfl, .inr ha, at0, rfl, _, rfl, ifF (sne (show ("edge" : Str) ≠ "empty" by decide)) ⟨_, rfl, _, _, _, _, rfl, rfl, .inr ha, at0, rfl, _, rfl, ifF (sne (show ("edge" : Str) ≠ "join" by decide)) ?_⟩⟩
        obtain ⟨t1, t2⟩ := SWM.top_of hS
        rw [hS] at hvs
        obtain ⟨v0, vg, rfl, hv0, hgg⟩ := hvs.last
        rw [hS, SWM.sumG_app, SWM.sumG_one] at hsz
        simp only [SWM.szG] at hsz
        refine ⟨_, rfl, _, _, _, _, rfl, hins, hbf.stk, .inl ⟨rfl, _, SqL.of hls⟩, ?_⟩
        refine ⟨_, rfl, _, _, _, rfl, hins, hbf.no1 "_changed" (by simp), ?_⟩
        refine ⟨_, rfl, _, rfl, _, _, _, _, rfl, hins, hbf.stk, .inl ⟨rfl, _, SqL.of hls⟩, A.ls, _, vg, rfl, rfl, hls, last_at, ?_⟩
        rw [List.dropLast_concat]
        have M1 : Mv [A.ls] H (upd H A.ls (.lst v0)) := Mv.one hls (fun _ z => by cases z)
        have m1 := M1.sub (S' := A.S) fun a ha => by rw [List.mem_singleton.mp ha]; exact A.mem.2.1
        have hb1 := hbd.setStk (stk := S) M1 upd_same (hv0.mono fun _ _ z => z.mv m1)
        refine ⟨H0, A, _, bf, _, _, (.edge i j), g, rfl, hb1, hv.mono m1.2, hgg.mv m1, .edge i j hi hj, hn, by show g.1.length + g.2.length + b.eds.length ≤ _; omega, fun H3 v3 m3 hb3 hg3 => ?_⟩
        obtain ⟨vs3, hls3, hvs3⟩ := id hb3.stk
        have hl3 : vs3.length = S.length := hvs3.length
        refine ⟨A.ls, vs3, v3, rfl, rfl, hls3, lt_line (by rw [hl3]; have : (S ++ [g]).length = S.length + 1 := by simp
                                                           rw [hS, this] at hvl; omega), ?_⟩
        have M4 : Mv [A.ls] H3 (upd H3 A.ls (.lst (vs3 ++ [v3]))) := Mv.one hls3 (fun _ z => by cases z)
        have m4 := M4.sub (S' := A.S) fun a ha => by rw [List.mem_singleton.mp ha]; exact A.mem.2.1
        have hb4 := hb3.setStk (stk := S ++ [chG { b with stk := S } g (.edge i j)]) M4 upd_same ((hvs3.mono fun _ _ z => z.mv m4).append (.one (hg3.mv m4)))
        have em : midB b (.edge i j) = { chB { b with stk := S } g (.edge i j) with stk := S ++ [chG { b with stk := S } g (.edge i j)] } := by
          simp only [midB, SWM.takeB, chB, chG, t1, t2]
        rw [em]
        refine ⟨none, _, S, _, rfl, (m1.trans m3).trans m4, hb4, rfl, fun i z => (by cases z), fun _ => ?_⟩
        rw [src_edge, t1]; rfl
    · rintro σ H1 ⟨o2, bf', S, g, rfl, m1, hb1, hS1, hF, hN⟩
      -- sources = dict(self._stack[-1][0])
      obtain ⟨fs1, hins1, hbf1, hbe1⟩ := id hb1.ins
      obtain ⟨vs1, hls1, hvs1⟩ := id hb1.stk
      rw [hS1] at hvs1
      obtain ⟨v0, vg, rfl, hv0, ⟨tg, xg, yg, rfl, htg, ⟨dg, rfl, ndg, hdg⟩, _⟩⟩ := hvs1.last
      have ha1 := m1.2 _ _ ha
      refine ⟨_, rfl, _, _, _, _, rfl, hins1, hbf1.stk, _, rfl, _, _, _, _, rfl, rfl, .inl hls1, atI_last _ _, _, _, _, _, rfl, rfl, .inr htg, at0, _, _, rfl, .inl hdg, fun d hd => ?_⟩
      have s2 := same_new (o := .dK (kN g.1)) hd
      have hb2 := hb1.keep s2
      have ha2 := s2 _ _ ha1
      refine ⟨fun σ H2 => ∃ (x : Addr) (o4 : Option V), σ = [some (.ref A.p), some (.ref a), o2, some (.ref x), o4] ∧ Same H1 H2 ∧ H2 x = some (.dK (kN (srcOf b st))), ?_, ?_⟩
      · cases st with
        | forget i =>
          obtain ⟨e, he1, he2⟩ := hbe1 _ (hF i rfl)
          obtain ⟨e', rfl, ne, he3⟩ := he2
          refine ⟨_, rfl, _, _, _, _, rfl, rfl, .inr ha2, at0, rfl, _, rfl, ifT (seq rfl) ?_⟩
          exact ⟨_, rfl, _, _, _, _, rfl, s2 _ _ hins1, he1, e', _, rfl, s2, s2 _ _ he3⟩
        | empty =>
          refine ⟨_, rfl, _, _, _, _, rfl, rfl, .inr ha2, at0, rfl, _, rfl, ifF (sne (show ("empty" : Str) ≠ "forget" by decide)) ?_⟩
          exact ⟨d, _, rfl, s2, by rw [← hN (fun i z => by cases z)]; exact upd_same⟩
        | join =>
          refine ⟨_, rfl, _, _, _, _, rfl, rfl, .inr ha2, at0, rfl, _, rfl, ifF (sne (show ("join" : Str) ≠ "forget" by decide)) ?_⟩
          exact ⟨d, _, rfl, s2, by rw [← hN (fun i z => by cases z)]; exact upd_same⟩
        | new i =>
          refine ⟨_, rfl, _, _, _, _, rfl, rfl, .inr ha2, at0, rfl, _, rfl, ifF (sne (show ("new" : Str) ≠ "forget" by decide)) ?_⟩
          exact ⟨d, _, rfl, s2, by rw [← hN (fun i z => by cases z)]; exact upd_same⟩
        | edge i j =>
          refine ⟨_, rfl, _, _, _, _, rfl, rfl, .inr ha2, at0, rfl, _, rfl, ifF (sne (show ("edge" : Str) ≠ "forget" by decide)) ?_⟩
          exact ⟨d, _, rfl, s2, by rw [← hN (fun i z => by cases z)]; exact upd_same⟩
      · rintro σ H2 ⟨x, o4, rfl, s3, hx⟩
        have hb3 := hb1.keep s3
        obtain ⟨ws, hlw, hws⟩ := id hb3.shw
        have hwl : ws.length = b.shw.length := hws.length
        have hlen : (SWM.srtN ((srcOf b st).map (·.1))).length ≤ 100001 := by
          rw [SWM.srtN_len, List.length_map]
          exact src_len hfi (by omega)
        refine ⟨_, rfl, _, _, _, _, rfl, s3 _ _ hins1, hbf1.shw, .inl ⟨rfl, _, SqL.of hlw⟩, _, rfl, ?_⟩
        refine sortedDN (.inl hx) fun p hp => ?_
        have s4 := same_new (o := .lst ((SWM.srtN ((srcOf b st).map (·.1))).map vN)) hp
        refine ⟨p, rfl, ⟨_, SqL.of upd_same⟩, fun D hD => lc_td (walk_list (xs := (SWM.srtN ((srcOf b st).map (·.1))).map vN)) hD (outM (SWM.srtN ((srcOf b st).map (·.1))) (fun l => dN (SWM.lkD (srcOf b st) l))) outM_0 (fun H h => SqL.of (h _ _ upd_same)) ?_ ?_⟩
        · rintro i y H3 H3' hi pl ⟨rfl, hy⟩
          obtain ⟨n, hn, rfl⟩ := map_at hy
          have hin : n ∈ (srcOf b st).map (·.1) := SWM.mem_srtN.mp (List.mem_of_getElem? hn)
          refine ⟨rfl, _, rfl, _, rfl, x, _, rfl, dget (.inl (pl.1 _ _ (s4 _ _ hx))) hin, ?_⟩
          rw [outM_yes hn]
          exact pl.add hD (Same.refl _) (.int _) (lt_line (Nat.le_trans outM_len (by omega)))
        · intro H3 pl
          rw [show ((SWM.srtN ((srcOf b st).map (·.1))).map vN).length = (SWM.srtN ((srcOf b st).map (·.1))).length by simp, outM_all, show (SWM.srtN ((srcOf b st).map (·.1))).map (fun l => dN (SWM.lkD (srcOf b st) l)) = (SWM.shown (srcOf b st)).map dN by simp [SWM.shown]] at pl
          have s5 := s4.trans pl.1
          have hD0 := (upd_none hD).2
          refine ⟨A.lw, ws, _, rfl, rfl, s5 _ _ hlw, lt_line (by rw [hwl]; omega), ?_⟩
          have M5 : Mv [A.lw] H3 (upd H3 A.lw (.lst (ws ++ [.ref D]))) := Mv.one (s5 _ _ hlw) (fun _ z => by cases z)
          have m5 := M5.sub (S' := A.S) fun a ha => by rw [List.mem_singleton.mp ha]; exact A.mem.2.2.2.2
          have hb5 := hb3.keep s5
          have hDS : ¬ D ∈ A.S := hb3.fresh hD0
          have hb6 := hb5.setShw (shw := b.shw ++ [SWM.shown (srcOf b st)]) M5 upd_same ((hws.mono fun _ _ z => z.mv ((Same.mv s5).trans m5)).append (.one ⟨D, rfl, hDS, m5.1 _ _ hDS pl.nats⟩))
          have e : ({ midB b st with shw := b.shw ++ [SWM.shown (srcOf b st)] } : SWM.Bd) = SWM.takeB b st := by
            rw [← take_shw b st hfi]; rfl
          rw [e] at hb6
          exact q _ _ ((m1.trans (Same.mv (s3.trans s5))).trans m5) hb6
end
end SW


set_option maxRecDepth 100000
set_option maxHeartbeats 2000000
/-! A dict comprehension over a walk; two sorted. -/
namespace SW
open PySem PySem.Spec PyProof.Rows L2
theorem dc_it {J : It} {n : Nat} {G : Hp → Prop} {Y : Nat → Hp → V → Hp → Prop} (w : Walk J n G Y) {g : TG} {tt : TT} {tk tv : TE} {vs : List Nat} {σ : L2.St} {H1 : Hp} {D : Addr} {Qd : Hp → Prop} (Pv : Nat → Hp → Prop) (h0 : Pv 0 (upd H1 D (.dK []))) (hG : ∀ i H, i ≤ n → Pv i H → G H)
    (hs : ∀ i x H H', i < n → Pv i H → Y i H x H' → g x (wipe σ vs) H' fun σ2 H2 => wipe σ2 vs = wipe σ vs ∧ tt σ2 H2 fun b H3 =>
      if b = true then tk σ2 H3 fun y H4 => tv σ2 H4 fun z H5 => ∃ kvs k, y = kV k ∧ H5 D = some (.dK kvs) ∧ kvs.length < sizeLine ∧ Pv (i + 1) (upd H5 D (.dK (putK kvs k z))) else Pv (i + 1) H3) (hd : ∀ H, Pv n H → Qd H) :
    ∃ W : Nat → Nat → Hp → Prop, (∃ m, W 0 m (upd H1 D (.dK []))) ∧ ∀ i m H, W i m H →
      (J.stop i H ∧ Qd H) ∨ (J.go i H ∧ ∃ Nx : Hp → Prop, (∀ H', Nx H' → ∃ m', m' < m ∧ W (i + 1) m' H') ∧ ∀ x H', J.yld i H x H' → g x (wipe σ vs) H' fun σ2 H2 => wipe σ2 vs = wipe σ vs ∧ tt σ2 H2 fun b H3 =>
        if b = true then tk σ2 H3 fun y H4 => tv σ2 H4 fun z H5 => ∃ kvs k, y = kV k ∧ H5 D = some (.dK kvs) ∧ kvs.length < sizeLine ∧ Nx (upd H5 D (.dK (putK kvs k z))) else Nx H3) := by
  refine ⟨fun i m H => m = n - i ∧ i ≤ n ∧ Pv i H, ⟨n, by simp, Nat.zero_le _, h0⟩, ?_⟩
  rintro i m H ⟨rfl, hi, p⟩
  have q := hG i H hi p
  by_cases hlt : i < n
  · refine .inr ⟨w.goes i H hlt q, Pv (i + 1), fun H' p' => ⟨n - (i + 1), by omega, rfl, hlt, p'⟩, fun x H' y => hs i x H H' hlt p (w.yields i H x H' hlt q y)⟩
  · have e : i = n := by omega
    subst e
    exact .inl ⟨w.stops H q, hd H p⟩
theorem srt_two (a b : Nat) : SWM.srtN [a, b] = [(SWM.sp (a, b)).1, (SWM.sp (a, b)).2] := by
  refine (SWM.srtN_uniq ?_ ?_).symm
  · unfold SWM.sp
    split
    · exact List.Perm.refl _
    · exact List.Perm.swap _ _ _
  · have := SWM.sp_le (a, b)
    simpa using this
theorem zip_put {l : List Nat} (nd : l.Nodup) {i t : Nat} (h : l[i]? = some t) : SWM.put ((l.take i).zipIdx) t i = (l.take (i + 1)).zipIdx := by
  have hi : i < l.length := (List.getElem?_eq_some_iff.mp h).1
  have e : l.take (i + 1) = l.take i ++ [t] := by rw [List.take_add_one, h]; rfl
  have hn : ¬ t ∈ ((l.take i).zipIdx).map (·.1) := by
    rw [List.zipIdx_map_fst]
    intro z
    have nd2 : (l.take i ++ [t]).Nodup := by rw [← e]; exact nd.sublist (List.take_sublist _ _)
    exact (List.nodup_append.mp nd2).2.2 t z t (by simp) rfl
  rw [SWM.put_new hn, e, List.zipIdx_append, List.length_take, Nat.min_eq_left (by omega)]
  simp
theorem zip_nd {l : List Nat} (nd : l.Nodup) (i : Nat) : (((l.take i).zipIdx).map (·.1)).Nodup := by
  rw [List.zipIdx_map_fst]; exact nd.sublist (List.take_sublist _ _)
theorem lk_zip {l : List Nat} : ∀ {n : Nat} {t : Nat}, t ∈ l → SWM.lk (l.zipIdx n) t = some (n + l.idxOf t) := by
  induction l with
  | nil => intro n t h; cases h
  | cons a r ih =>
    intro n t h
    rw [List.zipIdx_cons]
    unfold SWM.lk
    by_cases e : a = t
    · rw [if_pos e, e]; simp
    · rw [if_neg e]
      have h' : t ∈ r := by
        rcases List.mem_cons.mp h with z | z
        · exact absurd z.symm e
        · exact z
      rw [ih h', List.idxOf_cons, beq_eq_false_iff_ne.mpr e, cond_false]
      congr 1; omega
end SW


set_option maxRecDepth 100000
set_option maxHeartbeats 2000000
/-! Building.number, finish. -/
namespace SW
open PySem PySem.Spec PyProof.Rows L2
theorem three_line : 3 ≤ sizeLine := by decide
section
variable {P : Program} {w : World} {K : PySem.W.Frag} {mg : Str → Option Value} {base : Heap}
/-- what number reads -/
def NumAt (C : Addr) (H : Hp) (p : Addr) (bec m : List (Nat × Nat)) : Prop := ∃ dx fs db dn, H p = some (.ins C dx fs) ∧ fs.lookup ("_becomes" : Str) = some (.ref db) ∧ fs.lookup ("_numbers" : Str) = some (.ref dn) ∧ fs.lookup ("number" : Str) = none ∧
  H db = some (.dK (kN bec)) ∧ H dn = some (.dK (kN m))
theorem NumAt.same {C : Addr} {H H' : Hp} {p : Addr} {bec m : List (Nat × Nat)} (h : NumAt C H p bec m) (s : Same H H') : NumAt C H' p bec m := by
  obtain ⟨dx, fs, db, dn, h1, h2, h3, h4, h5, h6⟩ := h
  exact ⟨dx, fs, db, dn, s _ _ h1, h2, h3, h4, s _ _ h5, s _ _ h6⟩
def sp_Building_number (C : Addr) : Sp := fun vs H Q _ => ∃ (p : Addr) (bec m : List (Nat × Nat)) (t n : Nat), vs = [.ref p, vN t] ∧ NumAt C H p bec m ∧ (∀ a b, SWM.lk bec a = some b → b < a) ∧ SWM.lk m (SWM.res bec t) = some n ∧ Q (vN n) H
theorem ok_Building_number (T : Txt K mg w) : FnOk P w K mg base CX0 1 T.f_Building_number T.fd_Building_number ["self", "token"] (sp_Building_number T.C_Building) := by
  refine T.F_Building_number.ok sc_Building_number (fun vs H Q E h => ?_) (fun cdv A0 outer s H vs Q E hr h => ?_)
  · obtain ⟨p, bec, m, t, n, rfl, _⟩ := h
    rfl
  · obtain ⟨p, bec, m, t, n, rfl, ⟨dx, fs, db, dn, h1, h2, h3, h4, h5, h6⟩, hd, hn, q⟩ := h
    have hu1 := hu_of hr
    refine ⟨_, PSs.nox (pss_cons (ps_while PassesOwn.never (pt_cmp (pc_din hu1 (pv 1) (pe_f (C := T.C_Building) (pv 0) T.cl_Building T.n_Building__becomes)))
    (pss_one (ps_set (i := 1) sc_Building_number.nd rfl (Or.inl rfl) (pe_dget hu1 (pe_f (C := T.C_Building) (pv 0) T.cl_Building T.n_Building__becomes) (pv 1) (fun _ _ => rfl)))))
    (pss_one (ps_ret (pe_dget hu1 (pe_f (C := T.C_Building) (pv 0) T.cl_Building T.n_Building__numbers) (pv 1) (fun _ _ => rfl)))))
    , ?_⟩
    refine ⟨fun m1 σ H' => ∃ x : Nat, m1 = x ∧ σ = [some (.ref p), some (vN x)] ∧ H' = H ∧ SWM.res bec x = SWM.res bec t, ⟨t, t, rfl, rfl, rfl, rfl⟩, ?_⟩
    rintro m1 σ H' ⟨x, rfl, rfl, rfl, hx⟩
    refine ⟨_, rfl, _, rfl, _, _, _, _, rfl, h1, h2, db, _, rfl, dgetO (.inl h5), _, rfl, ?_⟩
    cases e : SWM.lk bec m1 with
    | none =>
      refine ifF rfl ?_
      have hm : SWM.lk m m1 = some n := by rw [← hx, SWM.res_end e] at hn; exact hn
      refine ⟨_, rfl, _, _, _, _, rfl, h1, h3, _, rfl, dn, _, rfl, ?_, q⟩
      have := dgetO (H := H') (k := m1) (.inl h6)
      rw [hm] at this; exact this
    | some y =>
      refine ifT rfl ?_
      have hl := hd m1 y e
      refine ⟨fun σ' H'' => σ' = [some (.ref p), some (vN y)] ∧ H'' = H', ?_, ?_⟩
      · rintro σ' H'' ⟨rfl, rfl⟩
        exact ⟨y, hl, y, rfl, rfl, rfl, by rw [← hx, SWM.res_step hd e]⟩
      · refine ⟨_, rfl, _, _, _, _, rfl, h1, h2, _, rfl, db, vN y, rfl, ?_, rfl, rfl⟩
        have := dgetO (H := H') (k := m1) (.inl h5)
        rw [e] at this; exact this
def sp_Building_finish (C : Addr) : Sp := fun vs H Q _ => ∃ (H0 : Hp) (A : BA) (bf : Option (List (Nat × Nat))) (k : Nat) (tm : List SWM.Stp), vs = [.ref A.p, vN k] ∧ BdAt C H0 H A (SWM.bld tm) bf ∧ SWM.BldOk tm ∧ k ≤ 12 ∧ (SWM.ordT tm).length ≤ 100000 ∧ (SWM.bld tm).eds.length ≤ 100000 ∧
  ∀ H' t le vm, Mv A.S H H' → NumAt C H' A.p (SWM.bld tm).bec (SWM.ordT tm).zipIdx → (∃ dx fs ws, H' A.p = some (.ins C dx fs) ∧ fs.lookup ("shown" : Str) = some (.ref A.lw) ∧ H' A.lw = some (.lst ws) ∧ All2 (NL [] H') ws (SWM.bld tm).shw) →
    H' t = some (.tup [vN (SWM.sizeT tm), .ref le, vm]) → LD H' le ((SWM.edgesT tm).map dP) → Q (.ref t) H'
theorem ok_Building_finish (T : Txt K mg w) : FnOk P w K mg base CX0 2 T.f_Building_finish T.fd_Building_finish ["self", "k"] (sp_Building_finish T.C_Building) := by
  refine T.F_Building_finish.ok sc_Building_finish (fun vs H Q E h => ?_) (fun cdv A0 outer s H vs Q E hr h => ?_)
  · obtain ⟨H0, A, bf, k, tm, rfl, _⟩ := h
    rfl
  · obtain ⟨H0, A, bf, k, tm, rfl, hbd, ok, hk, hz1, hz2, q⟩ := h
    have hu := hu65 hr
    have hu1 := hu_of hr
    refine ⟨_, PSs.nox (pss_cons (ps_asg (pe_ix op_ix (pe_f (C := T.C_Building) (pv 0) T.cl_Building T.n_Building__stack) pe_int (fun _ _ => rfl)) (pg_tup (by rfl) (pgs_cons (pg_name (i := 2) sc_Building_finish.nd rfl (Or.inr rfl)) (pgs_cons (pg_name (i := 3) sc_Building_finish.nd rfl (Or.inl rfl)) pgs_nil))))
    (pss_cons (ps_fld (pv 0) (pe_dc (own := [("index", 6), ("token", 7)]) (g := gTup K 2 (gCons (gName 6) (gCons (gName 7) gNil))) rfl sc_Building_finish.nd (pi_enum rfl T.z_enumerate (pa_cons (pv 3) pa_nil)) (blkOk_by (N := ["self", "k", "sources", "order", "edges", "marked", "index", "token", "u", "v", "label"]) (sc := defScope s_Building_finish) (by decide +kernel)) (fun _ _ _ _ _ => pg_tup rfl (pgs_cons (pg_name (i := 6) sc_Building_finish.nd rfl (Or.inl rfl)) (pgs_cons (pg_name (i := 7) sc_Building_finish.nd rfl (Or.inl rfl)) pgs_nil))) (fun _ _ _ _ _ => pts_nil) (fun _ _ _ _ _ => (pv 7)) (fun _ _ _ _ _ => (pv 6))) rfl)
    (pss_cons (ps_setLc (i := 4) (own := [("u", 8), ("v", 9)]) (g := gTup K 2 (gCons (gName 8) (gCons (gName 9) gNil))) rfl sc_Building_finish.nd rfl rfl (sw_true rfl rfl rfl (by decide +kernel)) (pi_list (pe_f (C := T.C_Building) (pv 0) T.cl_Building T.n_Building__edges)) (blkOk_by (N := ["self", "k", "sources", "order", "edges", "marked", "index", "token", "u", "v", "label"]) (sc := defScope s_Building_finish) (by decide +kernel)) (fun _ _ _ _ _ => pg_tup rfl (pgs_cons (pg_name (i := 8) sc_Building_finish.nd rfl (Or.inl rfl)) (pgs_cons (pg_name (i := 9) sc_Building_finish.nd rfl (Or.inl rfl)) pgs_nil))) (fun _ _ _ _ _ => pts_nil) (fun _ _ _ _ _ => (pe_callTy cr_tup rfl T.z_tuple boot_tuple (pa_cons (pe_callB (cr_sortedD hu) rfl T.z_sorted boot_sorted (pa_cons (pe_lst (pa_cons (pe_meth (pv 0) T.cl_Building T.m_Building_number (ok_Building_number T) (hr.mono (by decide)) (b_Building_number T) .nil pass0 (pa_cons (pv 8) pa_nil)) (pa_cons (pe_meth (pv 0) T.cl_Building T.m_Building_number (ok_Building_number T) (hr.mono (by decide)) (b_Building_number T) .nil pass0 (pa_cons (pv 9) pa_nil)) pa_nil))) pa_nil)) pa_nil))))
    (pss_cons (ps_set (i := 5) sc_Building_finish.nd rfl (Or.inl rfl) (pe_callTy cr_tup rfl T.z_tuple boot_tuple (pa_cons (pe_lc (own := [("label", 10)]) (g := gName 10) rfl sc_Building_finish.nd (pi_range1 rfl T.z_range (pa_cons (pe_op op_add (pv 1) pe_int) pa_nil)) (blkOk_by (N := ["self", "k", "sources", "order", "edges", "marked", "index", "token", "u", "v", "label"]) (sc := defScope s_Building_finish) (by decide +kernel)) (fun _ _ _ _ _ => pg_name (i := 10) sc_Building_finish.nd rfl (Or.inl rfl)) (fun _ _ _ _ _ => pts_nil) (fun _ _ _ _ _ => (pe_ifExp (pt_cmp (pc_din hu1 (pv 10) (pv 2))) (pe_meth (pv 0) T.cl_Building T.m_Building_number (ok_Building_number T) (hr.mono (by decide)) (b_Building_number T) .nil pass0 (pa_cons (pe_dget hu1 (pv 2) (pv 10) (fun _ _ => rfl)) pa_nil)) pe_non))) pa_nil)))
    (pss_one (ps_ret (pe_tup (pa_cons (pe_callB cr_len rfl T.z_len boot_len (pa_cons (pv 3) pa_nil)) (pa_cons (pv 4) (pa_cons (pv 5) pa_nil))))))))))
    , ?_⟩
    obtain ⟨fs, hins, hbf, _⟩ := id hbd.ins
    obtain ⟨vs, hls, hvs⟩ := id hbd.stk
    obtain ⟨g, hg⟩ := ok.one
    have htop : SWM.topG (SWM.bld tm) = g := (SWM.top_of (S := []) (by simpa using hg)).1
    have hord : SWM.ordT tm = g.2 := by unfold SWM.ordT; rw [htop]
    rw [hg] at hvs
    obtain ⟨v0, vg, rfl, hv0, ⟨tg, xg, yg, rfl, htg, ⟨ds, rfl, nds, hds⟩, ⟨os, rfl, nos, hos⟩⟩⟩ := All2.last (ds := []) hvs
    cases hv0
    refine ⟨_, rfl, _, _, _, _, rfl, hins, hbf.stk, _, _, _, _, rfl, rfl, .inl hls, at0, _, _, rfl, SqT.of htg, rfl, _, _, rfl, _, _, rfl, rfl, ?_⟩
    -- self._numbers
    refine ⟨_, rfl, _, _, rfl, SqL.of hos, fun dn hdn => dc_it (walk_enum (xs := g.2.map vN)) (fun i H' => Same H H' ∧ H' dn = some (.dK (kN ((g.2.take i).zipIdx)))) ⟨same_new hdn, by simp [kN, upd_same]⟩ (fun i H' _ p => SqL.of (p.1 _ _ hos)) ?_ ?_⟩
    · rintro i x H1 H1' hi ⟨s1, hd1⟩ ⟨T1, x1, x2, rfl, hT, rfl, e1, e2⟩
      obtain ⟨n, hn, rfl⟩ := map_at e2
      obtain rfl := (Option.some.inj e1).symm
      have s2 := same_new (o := .tup [.int (i : Nat), vN n]) hT
      refine ⟨_, _, rfl, SqT.of upd_same, rfl, _, _, rfl, _, _, rfl, rfl, rfl, _, rfl, _, rfl, _, kI n, rfl, s2 _ _ hd1, lt_line (by rw [kN_len, List.length_zipIdx, List.length_take]; rw [hord] at hz1; omega), ?_⟩
      have nd : g.2.Nodup := by rw [← hord]; exact ok.on
      refine ⟨Same.put (s1.trans s2) hdn, ?_⟩
      rw [upd_same]
      have := putK_kN (zip_nd nd i) n i
      show some (HO.dK (putK _ _ (vN i))) = _
      rw [this, zip_put nd hn]
    · rintro H1 ⟨s1, hd1⟩
      rw [show (g.2.map vN).length = g.2.length by simp, List.take_length] at hd1
      refine ⟨_, rfl, _, _, _, _, rfl, s1 _ _ hins, T.cl_Building, T.n_Building__numbers, hbf.len.lt, ?_⟩
      have ndp : dn ≠ A.p := (ne_of_none hins hdn).symm
      have l : ∀ f : Str, f ≠ "_numbers" → (putF "_numbers" (.ref dn) fs).lookup f = fs.lookup f := fun f n => by rw [lookup_putF, if_neg n]
      have M1 : Mv [A.p] H (upd H1 A.p (.ins T.C_Building A.dx (putF "_numbers" (.ref dn) fs))) := (Same.mv s1).trans (Mv.one (s1 _ _ hins) (fun _ z => by cases z))
      have m1 := M1.sub (S' := A.S) fun a ha => by rw [List.mem_singleton.mp ha]; exact A.mem.1
      have ins2 : (upd H1 A.p (.ins T.C_Building A.dx (putF "_numbers" (.ref dn) fs))) A.p = some (.ins T.C_Building A.dx (putF "_numbers" (.ref dn) fs)) := upd_same
      obtain ⟨n1, n2, n3, n4, n5, n6, n7⟩ := hbd.ne
      have hnum : NumAt T.C_Building (upd H1 A.p (.ins T.C_Building A.dx (putF "_numbers" (.ref dn) fs))) A.p (SWM.bld tm).bec (SWM.ordT tm).zipIdx :=
        ⟨A.dx, _, A.db, dn, ins2, by rw [l _ (by decide)]; exact hbf.bec, by rw [lookup_putF, if_pos rfl], by rw [l _ (by decide)]; exact hbf.no1 "number" (by simp), M1.at hbd.bec n2.symm, by rw [upd_ne ndp, hord]; exact hd1⟩
      generalize hG : upd H1 A.p (.ins T.C_Building A.dx (putF "_numbers" (.ref dn) fs)) = H2 at M1 m1 ins2 hnum
      have numOk : ∀ x, x < (SWM.bld tm).tok → SWM.lk (SWM.ordT tm).zipIdx (SWM.res (SWM.bld tm).bec x) = some (SWM.num tm x) := fun x hx => by
        have := lk_zip (n := 0) (ok.res x hx)
        rw [Nat.zero_add] at this; exact this
      obtain ⟨es, hle, hes⟩ := hbd.eds
      have hle2 : H2 A.le = some (.lst es) := M1.at hle n3.symm
      have hes2 : TDs H2 es ((SWM.bld tm).eds.map dP) := hes.mono M1.2
      -- edges
      refine ⟨_, rfl, _, _, _, _, rfl, ins2, by rw [l _ (by decide)]; exact hbf.eds, A.le, rfl, ⟨_, SqL.of hle2⟩, fun D hD => lc_td (walk_list (xs := es)) hD (outM (SWM.bld tm).eds (fun p => dP (SWM.sp (SWM.num tm p.1, SWM.num tm p.2)))) outM_0 (fun H h => SqL.of (h _ _ hle2)) ?_ ?_⟩
      · rintro i x H3 H3' hi pl ⟨rfl, hx⟩
        obtain ⟨dd, hn, hxd⟩ := hes2.getV hx
        obtain ⟨pr, hpr, rfl⟩ := map_at hn
        obtain ⟨b, rfl, hb⟩ := (hxd.mono (Same.t pl.1)).pairI
        have hlt := ok.eds pr (List.mem_of_getElem? hpr)
        have hn3 := hnum.same pl.1
        obtain ⟨dx3, fs3, db3, dn3, g1, g2, g3, g4, _⟩ := id hn3
        refine ⟨_, _, rfl, SqT.of hb, rfl, _, _, rfl, _, _, rfl, rfl, rfl, ?_⟩
        refine ⟨_, rfl, A.p, _, _, rfl, g1, g4, _, rfl, A.p, _, _, pr.1, _, rfl, hn3, ok.dec, numOk _ hlt.1, ?_⟩
        refine ⟨_, rfl, A.p, _, _, rfl, g1, g4, _, rfl, A.p, _, _, pr.2, _, rfl, hn3, ok.dec, numOk _ hlt.2, ?_⟩
        refine ⟨two_line, fun q1 hq1 => ?_⟩
        have s4 := same_new (o := .lst [vN (SWM.num tm pr.1), vN (SWM.num tm pr.2)]) hq1
        refine sortedN [SWM.num tm pr.1, SWM.num tm pr.2] (.inl upd_same) (.cons (.int _) (.cons (.int _) .nil)) fun q2 hq2 => ?_
        rw [srt_two]
        have s5 := same_new (o := .lst (([(SWM.sp (SWM.num tm pr.1, SWM.num tm pr.2)).1, (SWM.sp (SWM.num tm pr.1, SWM.num tm pr.2)).2]).map vN)) hq2
        refine ⟨_, _, rfl, upd_same, fun q3 hq3 => ?_⟩
        have s6 := same_new (o := .tup (([(SWM.sp (SWM.num tm pr.1, SWM.num tm pr.2)).1, (SWM.sp (SWM.num tm pr.1, SWM.num tm pr.2)).2]).map vN)) hq3
        rw [outM_yes hpr]
        exact pl.add hD ((s4.trans s5).trans s6) (TD.ofPair (p := SWM.sp (SWM.num tm pr.1, SWM.num tm pr.2)) upd_same) (lt_line (Nat.le_trans outM_len (by omega)))
      · intro H3 pl
        rw [show es.length = (SWM.bld tm).eds.length by rw [hes.length]; simp, outM_all, show (SWM.bld tm).eds.map (fun p => dP (SWM.sp (SWM.num tm p.1, SWM.num tm p.2))) = (SWM.edgesT tm).map dP by simp [SWM.edgesT]] at pl
        have s3 := pl.1
        have hds2 : H2 ds = some (.dK (kN g.1)) := m1.1 _ _ nds hds
        -- marked
        refine ⟨_, rfl, _, _, rfl, rfl, _, rfl, ⟨by omega, by omega, fun D2 hD2 => lc_it walk_range (fun i H' => Same H3 H' ∧ ∃ acc, H' D2 = some (.lst acc) ∧ acc.length = i) ⟨same_new hD2, [], upd_same, rfl⟩ (fun i H' _ _ => True.intro) ?_ ?_⟩⟩
        · rintro i x H4 H4' hi ⟨s4, acc, ha1, ha2⟩ ⟨rfl, rfl⟩
          have hki : i < 13 := by omega
          have hn4 := hnum.same (s3.trans s4)
          obtain ⟨dx3, fs3, db3, dn3, g1, g2, g3, g4, _⟩ := id hn4
          have hds4 : H4' ds = some (.dK (kN g.1)) := s4 _ _ (s3 _ _ hds2)
          have e0 : (0 : Int) + (i : Int) = (i : Int) := by omega
          have hget : DGet H4' ds (V.int (0 + (i : Int))) ((SWM.lk g.1 i).map vN) := by rw [e0]; exact dgetO (.inl hds4)
          have fin : ∀ v : V, ∃ acc_1, H4' D2 = some (HO.lst acc_1) ∧ acc_1.length < sizeLine ∧ Same H3 (upd H4' D2 (.lst (acc_1 ++ [v]))) ∧ ∃ acc_2, (upd H4' D2 (.lst (acc_1 ++ [v]))) D2 = some (HO.lst acc_2) ∧ acc_2.length = i + 1 := fun v => ⟨acc, ha1, lt_line (by omega), Same.put s4 hD2, _, upd_same, by simp [ha2]⟩
          refine ⟨rfl, _, rfl, _, rfl, ds, _, rfl, hget, _, rfl, ?_⟩
          cases e : SWM.lk g.1 i with
          | none =>
            rw [e] at hget
            exact iteF (fin _)
          | some v =>
            rw [e] at hget
            have hv : v < (SWM.bld tm).tok := ok.src (i, v) (by rw [htop]; exact SWM.lk_mem e)
            refine iteT ⟨_, rfl, A.p, _, _, rfl, g1, g4, _, rfl, _, rfl, ds, _, rfl, hget, A.p, _, _, v, _, rfl, hn4, ok.dec, numOk _ hv, fin _⟩
        · rintro H4 ⟨s4, acc, ha1, ha2⟩
          refine ⟨_, _, rfl, ha1, fun p1 hp1 => ?_⟩
          have s5 := same_new (o := .tup acc) hp1
          have s35 := s3.trans (s4.trans s5)
          have hos2 : H2 os = some (.lst (g.2.map vN)) := m1.1 _ _ nos hos
          refine ⟨_, rfl, _, _, rfl, .inl (s35 _ _ hos2), _, rfl, _, rfl, three_line, fun p2 hp2 => ?_⟩
          have s6 := same_new (o := .tup [.int ((g.2.map vN).length : Int), .ref D, .ref p1]) hp2
          have s36 := s35.trans s6
          have eL : (V.int ((g.2.map vN).length : Int)) = vN (SWM.sizeT tm) := by unfold SWM.sizeT; rw [hord, List.length_map]; rfl
          obtain ⟨ws, hlw, hws⟩ := hbd.shw
          refine q _ p2 D (.ref p1) (m1.trans (Same.mv s36)) (hnum.same s36) ⟨A.dx, _, ws, s36 _ _ ins2, by rw [l _ (by decide)]; exact hbf.shw, s36 _ _ (M1.at hlw n4.symm), hws.mono fun v d z => ?_⟩ (by rw [← eL]; exact upd_same) (LD.same pl.2 (s4.trans (s5.trans s6)))
          obtain ⟨a, h1, h2, h3⟩ := z.mv (m1.trans (Same.mv s36))
          exact ⟨a, h1, by simp, h3⟩
end
end SW


set_option maxRecDepth 100000
set_option maxHeartbeats 2000000
/-! Graph.__init__, same. -/
namespace SW
open PySem PySem.Spec PyProof.Rows L2
/-- a graph at p -/
def GrAt (C : Addr) (H : Hp) (p : Addr) (n : Nat) (es : List (Nat × Nat)) : Prop := ∃ dx fs v, H p = some (.ins C dx fs) ∧ fs.lookup ("size" : Str) = some (vN n) ∧ fs.lookup ("edges" : Str) = some v ∧ TD H v (dPs es)
theorem GrAt.same {C : Addr} {H H' : Hp} {p : Addr} {n : Nat} {es : List (Nat × Nat)} (h : GrAt C H p n es) (s : Same H H') : GrAt C H' p n es := by
  obtain ⟨dx, fs, v, h1, h2, h3, h4⟩ := h
  exact ⟨dx, fs, v, s _ _ h1, h2, h3, h4.mono (Same.t s)⟩
theorem GrAt.ext {C : Addr} {H H' : Hp} {p : Addr} {n : Nat} {es : List (Nat × Nat)} (h : GrAt C H p n es) (s : LamX.ExtN H H') : GrAt C H' p n es := by
  obtain ⟨dx, fs, v, h1, h2, h3, h4⟩ := h
  exact ⟨dx, fs, v, s _ _ h1 (fun _ z => by cases z), h2, h3, h4.mono (ExtN.t s)⟩
theorem kP_inj {p q : Nat × Nat} (h : kP p = kP q) : p = q := by
  obtain ⟨a, b⟩ := p
  obtain ⟨c, d⟩ := q
  unfold kP at h
  injection h with h1 h2
  injection h2 with h2 _
  have := Sum.inl.inj h1
  have := Sum.inl.inj h2
  simp only [Prod.mk.injEq]
  simp only at *
  omega
theorem valV_kP {kvs : List (List Key × V)} : ∀ {l : List (Nat × Nat)} {q : Nat × Nat}, kvs.map (·.1) = l.map kP → ¬ q ∈ l → valV kvs (kP q) = none := by
  induction kvs with
  | nil => intro l q h hn; rfl
  | cons x r ih =>
    intro l q h hn
    cases l with
    | nil => cases h
    | cons p l =>
      have h' : x.1 :: r.map (·.1) = kP p :: l.map kP := h
      injection h' with h1 h2
      rw [valV_neg (fun z => hn (by rw [kP_inj (h1.symm.trans z)]; simp))]
      exact ih h2 (fun z => hn (List.mem_cons_of_mem _ z))
section
variable {P : Program} {w : World} {K : PySem.W.Frag} {mg : Str → Option Value} {base : Heap}
def sp_Graph___init__ (C : Addr) : Sp := fun vs H Q _ => ∃ (p dx e : Addr) (n : Nat) (es : List (Nat × Nat)), vs = [.ref p, vN n, .ref e] ∧ H p = some (.ins C dx []) ∧ LD H e (es.map dP) ∧ n ≤ 60 ∧ (∀ q ∈ es, q.1 < q.2 ∧ q.2 < n) ∧ es.Nodup ∧ es.length ≤ 100000 ∧
  ∀ H', Mv [p] H H' → GrAt C H' p n (SWM.srtP es) → Q .non H'
theorem ok_Graph___init__ (T : Txt K mg w) : FnOk P w K mg base CX0 3 T.f_Graph___init__ T.fd_Graph___init__ ["self", "size", "edges"] (sp_Graph___init__ T.C_Graph) := by
  refine T.F_Graph___init__.ok sc_Graph___init__ (fun vs H Q E h => ?_) (fun cdv A0 outer s H vs Q E hr h => ?_)
  · obtain ⟨p, dx, e, n, es, rfl, _⟩ := h
    rfl
  · obtain ⟨p, dx, e, n, es, rfl, hp, ⟨ev, he, hev⟩, hn, hes, hnd, hlen, q⟩ := h
    have hu := hu65 hr
    have hu1 := hu_of hr
    obtain ⟨t1, h_MOST_VERTICES⟩ := T.i_MOST_VERTICES
    refine ⟨_, PSs.nox (pss_cons (ps_if (pt_not (pt_val (pe_call (ok_is_integer T) (hr.mono (by decide)) rfl T.g_is_integer T.F_is_integer.kp (b_is_integer T) .nil pass0 (pa_cons (pv 1) (pa_cons pe_int (pa_cons (pe_glob (v := .int 60) rfl h_MOST_VERTICES ⟨_, rfl⟩) pa_nil))))))
    (pss_one ps_never)
    pss_nil)
    (pss_cons (ps_set (i := 3) sc_Graph___init__.nd rfl (Or.inl rfl) pe_dnewT)
    (pss_cons (ps_for PassesOwn.never rfl (pi_list (pv 2)) (pg_name (i := 4) sc_Graph___init__.nd rfl (Or.inl rfl))
    (pss_cons (ps_if (PW.pt (pw_or (pt_not (pt_val (pe_call (ok__is_edge T) (hr.mono (by decide)) rfl T.g__is_edge T.F__is_edge.kp (b__is_edge T) .nil pass0 (pa_cons (pv 4) (pa_cons (pv 1) pa_nil))))) (pw_or1 (pt_cmp (pc_din hu1 (pv 4) (pv 3))))))
    (pss_one ps_never)
    pss_nil)
    (pss_one (ps_dput hu1 (pv 3) (pv 4) pe_bl rfl))))
    (pss_cons (ps_fld (pv 0) (pv 1) rfl)
    (pss_cons (ps_fld (pv 0) (pe_callTy cr_tup rfl T.z_tuple boot_tuple (pa_cons (pe_callB (cr_sortedKP rfl hu) rfl T.z_sorted boot_sorted (pa_cons (pv 3) pa_nil)) pa_nil)) rfl)
    (pss_cons (ps_fld (pv 0) (pe_lc (own := [("_", 7)]) (g := gName 7) rfl sc_Graph___init__.nd (pi_range1 rfl T.z_range (pa_cons (pv 1) pa_nil)) (blkOk_by (N := ["self", "size", "edges", "seen", "edge", "u", "v", "_", "row"]) (sc := defScope s_Graph___init__) (by decide +kernel)) (fun _ _ _ _ _ => pg_name (i := 7) sc_Graph___init__.nd rfl (Or.inl rfl)) (fun _ _ _ _ _ => pts_nil) (fun _ _ _ _ _ => (pe_lst pa_nil))) rfl)
    (pss_cons (ps_for PassesOwn.never rfl (pi_tup (pe_f (C := T.C_Graph) (pv 0) T.cl_Graph T.n_Graph_edges)) (pg_tup rfl (pgs_cons (pg_name (i := 5) sc_Graph___init__.nd rfl (Or.inl rfl)) (pgs_cons (pg_name (i := 6) sc_Graph___init__.nd rfl (Or.inl rfl)) pgs_nil)))
    (pss_cons (ps_expr (pe_bm PySem.F.plainAttrs_list PySem.F.slot_list_append PySem.F.type_list_append mt_append (pe_ix op_ix (pe_f (C := T.C_Graph) (pv 0) T.cl_Graph T.n_Graph__near) (pv 5) (fun _ _ => rfl)) (pa_cons (pv 6) pa_nil)))
    (pss_one (ps_expr (pe_bm PySem.F.plainAttrs_list PySem.F.slot_list_append PySem.F.type_list_append mt_append (pe_ix op_ix (pe_f (C := T.C_Graph) (pv 0) T.cl_Graph T.n_Graph__near) (pv 6) (fun _ _ => rfl)) (pa_cons (pv 5) pa_nil))))))
    (pss_one (ps_fld (pv 0) (pe_lc (own := [("row", 8)]) (g := gName 8) rfl sc_Graph___init__.nd (pi_list (pe_f (C := T.C_Graph) (pv 0) T.cl_Graph T.n_Graph__near)) (blkOk_by (N := ["self", "size", "edges", "seen", "edge", "u", "v", "_", "row"]) (sc := defScope s_Graph___init__) (by decide +kernel)) (fun _ _ _ _ _ => pg_name (i := 8) sc_Graph___init__.nd rfl (Or.inl rfl)) (fun _ _ _ _ _ => pts_nil) (fun _ _ _ _ _ => (pe_callB (cr_sortedD hu) rfl T.z_sorted boot_sorted (pa_cons (pv 8) pa_nil)))) rfl)))))))))
    , ?_⟩
    have hel : ev.length = es.length := by rw [hev.length]; simp
    have npe : e ≠ p := ne_of he hp (by intro z; cases z)
    refine ⟨_, rfl, _, _, _, rfl, _, rfl, ?_⟩
    refine ifF (by rw [decide_eq_true (by omega), decide_eq_true (by omega)]; rfl) ?_
    intro d hd
    have s0 := same_new (o := .dT []) hd
    refine ⟨_, rfl, e, rfl, ⟨_, SqL.of (s0 _ _ he)⟩, for_it (walk_list (xs := ev)) (fun i σ H' => ∃ (o4 : Option V) (kvs : List (List Key × V)), σ = [some (.ref p), some (vN n), some (.ref e), some (.ref d), o4, none, none, none, none] ∧ Same H H' ∧ H' d = some (.dT kvs) ∧ kvs.map (·.1) = (es.take i).map kP)
      ⟨none, [], rfl, s0, upd_same, by simp⟩ (fun i σ H' _ ⟨_, _, _, s1, _⟩ => SqL.of (s1 _ _ he)) ?_ ?_⟩
    · rintro i x σ H1 H1' hi ⟨o4, kvs, rfl, s1, hd1, hk1⟩ ⟨rfl, hx⟩
      obtain ⟨dd, hn1, hxd⟩ := hev.getV hx
      obtain ⟨pr, hpr, rfl⟩ := map_at hn1
      have hxd1 := hxd.mono (Same.t s1)
      obtain ⟨b, rfl, hb⟩ := hxd1.pairI
      have hm := List.mem_of_getElem? hpr
      obtain ⟨h1, h2⟩ := hes pr hm
      refine ⟨_, rfl, _, rfl, _, pr, n, rfl, hxd1, _, rfl, ?_⟩
      rw [decide_eq_true (by omega : pr.1 < n ∧ pr.2 < n ∧ pr.1 < pr.2)]
      have hni : ¬ pr ∈ es.take i := fun z => by
        have e1 : es.take (i + 1) = es.take i ++ [pr] := by rw [List.take_add_one, hpr]; rfl
        have nd2 : (es.take i ++ [pr]).Nodup := by rw [← e1]; exact hnd.sublist (List.take_sublist _ _)
        exact (List.nodup_append.mp nd2).2.2 pr z pr (by simp) rfl
      have hval := valV_kP hk1 hni
      have hkl : kvs.length ≤ es.length := by
        have := congrArg List.length hk1
        rw [List.length_map, List.length_map] at this
        have h3 := List.length_take_le' i es
        omega
      refine iteF ⟨_, rfl, _, rfl, d, none, rfl, by have := DGet.t (k := kP pr) hd1 hb; rw [hval] at this; exact this, _, rfl, iteF ?_⟩
      refine ⟨_, rfl, _, rfl, d, _, rfl, DPut.t (k := kP pr) hd1 hb (lt_line (by omega)), ?_⟩
      refine ⟨_, _, rfl, Same.put s1 hd, upd_same, ?_⟩
      have e1 : es.take (i + 1) = es.take i ++ [pr] := by rw [List.take_add_one, hpr]; rfl
      have e2 : (kvs.any fun kv => decide (kv.1 = kP pr)) = false := by rw [valV_any, hval]; rfl
      unfold putK
      rw [e2, e1, if_neg Bool.false_ne_true, List.map_append, List.map_append, hk1]
      rfl
    · rintro σ H1 ⟨o4, kvs, rfl, s1, hd1, hk1⟩
      rw [hel, List.take_length] at hk1
      have ndp : d ≠ p := (ne_of_none hp hd).symm
      refine ⟨_, rfl, _, rfl, _, _, _, _, rfl, s1 _ _ hp, T.cl_Graph, T.n_Graph_size, by decide, ?_⟩
      have M1 : Mv [p] H (upd H1 p (.ins T.C_Graph dx (putF "size" (vN n) []))) := (Same.mv s1).trans (Mv.one (s1 _ _ hp) (fun _ z => by cases z))
      refine ⟨_, rfl, sortedKP es (by rw [upd_ne ndp]; exact hd1) hk1 fun sl ys hys hsl => ?_⟩
      have s2 := same_new (o := .lst ys) hsl
      refine ⟨_, _, rfl, upd_same, fun et het => ?_⟩
      have s3 := same_new (o := .tup ys) het
      have s23 := s2.trans s3
      have M3 := M1.trans (Same.mv s23)
      have hp3 := s23 _ _ (upd_same (H := H1) (a := p) (o := .ins T.C_Graph dx (putF "size" (vN n) [])))
      have hys3 := hys.mono (Same.t s23)
      have het3 : (upd (upd (upd H1 p (.ins T.C_Graph dx (putF "size" (vN n) []))) sl (.lst ys)) et (.tup ys)) et = some (.tup ys) := upd_same
      generalize hG : upd (upd (upd H1 p (.ins T.C_Graph dx (putF "size" (vN n) []))) sl (.lst ys)) et (.tup ys) = H3 at M3 hp3 hys3 het3
      refine ⟨_, rfl, _, _, _, _, rfl, hp3, T.cl_Graph, T.n_Graph_edges, (by show 1 < 1000; decide), ?_⟩
      have M4 := M3.trans (Mv.one (u := .ins T.C_Graph dx (putF "edges" (.ref et) (putF "size" (vN n) []))) hp3 (fun _ z => by cases z))
      have netp : et ≠ p := ne_of het3 hp3 (by intro z; cases z)
      have het4 : (upd H3 p (.ins T.C_Graph dx (putF "edges" (.ref et) (putF "size" (vN n) [])))) et = some (.tup ys) := by rw [upd_ne netp]; exact het3
      have hys4 := hys3.mono (SameT.put (u := .ins T.C_Graph dx (putF "edges" (.ref et) (putF "size" (vN n) []))) hp3 (fun _ z => by cases z))
      have hp4 : (upd H3 p (.ins T.C_Graph dx (putF "edges" (.ref et) (putF "size" (vN n) [])))) p = some (.ins T.C_Graph dx (putF "edges" (.ref et) (putF "size" (vN n) []))) := upd_same
      generalize hG4 : upd H3 p (.ins T.C_Graph dx (putF "edges" (.ref et) (putF "size" (vN n) []))) = H4 at M4 het4 hys4 hp4
      -- self._near = [[] for _ in range(size)]
      refine ⟨_, rfl, n, rfl, by omega, by omega, fun nr hnr => lc_it walk_range (fun i H' => Same H4 H' ∧ ∃ rows : List Addr, H' nr = some (.lst (rows.map V.ref)) ∧ rows.length = i ∧ ∀ r ∈ rows, r ≠ nr ∧ H4 r = none ∧ H' r = some (.lst [])) ⟨same_new hnr, [], upd_same, rfl, by simp⟩ (fun i H' _ _ => True.intro) ?_ ?_⟩
      · rintro i x H5 H5' hi ⟨s5, rows, hr1, hr2, hr3⟩ ⟨rfl, rfl⟩
        have hin : i < 61 := by
          have : i < (n : Int).toNat := hi
          omega
        refine ⟨rfl, Nat.zero_le _, fun r hr => ?_⟩
        have s6 := same_new (o := .lst []) hr
        have nrr : r ≠ nr := (ne_of_none hr1 hr).symm
        refine ⟨_, s6 _ _ hr1, lt_line (by rw [List.length_map]; omega), Same.put (s5.trans s6) hnr, rows ++ [r], by rw [upd_same]; simp, by simp [hr2], fun r' hr' => ?_⟩
        rcases List.mem_append.mp hr' with z | z
        · obtain ⟨a1, a2, a3⟩ := hr3 r' z
          exact ⟨a1, a2, by rw [upd_ne a1]; exact s6 _ _ a3⟩
        · have : r' = r := by simpa using z
          rw [this]
          exact ⟨nrr, s5.free hr, by rw [upd_ne nrr]; exact upd_same⟩
      · rintro H5 ⟨s5, rows, hr1, hr2, hr3⟩
        have hrl : rows.length = n := by rw [hr2]; show ((n : Int)).toNat = n; omega
        refine ⟨_, rfl, _, _, _, _, rfl, s5 _ _ hp4, T.cl_Graph, T.n_Graph__near, (by show 2 < 1000; decide), ?_⟩
        have M5 : Mv [p] H4 (upd H5 p (.ins T.C_Graph dx (putF "_near" (.ref nr) (putF "edges" (.ref et) (putF "size" (vN n) []))))) := (Same.mv s5).trans (Mv.one (s5 _ _ hp4) (fun _ z => by cases z))
        have nnp : nr ≠ p := (ne_of_none hp4 hnr).symm
        have nrp : ∀ r ∈ rows, r ≠ p := fun r hr => (ne_of_none hp4 (hr3 r hr).2.1).symm
        have het5 := M5.2 _ _ het4
        have hyl : ys.length = es.length := by rw [hys.length, List.length_map]; exact (SWM.srtP_perm es).length_eq
        -- for u, v in self.edges
        refine ⟨_, rfl, _, _, _, _, rfl, upd_same, rfl, et, rfl, ⟨_, SqT.of het5⟩, for_it (walk_tup (xs := ys)) (fun i σ H' => ∃ (o5 o6 : Option V), σ = [some (.ref p), some (vN n), some (.ref e), some (.ref d), o4, o5, o6, none, none] ∧ Mv [p] H4 H' ∧
            H' p = some (.ins T.C_Graph dx (putF "_near" (.ref nr) (putF "edges" (.ref et) (putF "size" (vN n) [])))) ∧ H' nr = some (.lst (rows.map V.ref)) ∧ ∀ r ∈ rows, ∃ ns : List Nat, H' r = some (.lst (ns.map vN)) ∧ ns.length ≤ 2 * i)
          ⟨none, none, rfl, M5, upd_same, by rw [upd_ne nnp]; exact hr1, fun r hr => ⟨[], by rw [upd_ne (nrp r hr)]; exact (hr3 r hr).2.2, by simp⟩⟩ (fun i σ H' _ ⟨_, _, _, mv, _⟩ => SqT.of (mv.2 _ _ het4)) ?_ ?_⟩
        · rintro i x σ H6 H6' hi ⟨o5, o6, rfl, mv, hp6, hn6, hr6⟩ ⟨rfl, hx⟩
          obtain ⟨dd, hn1, hxd⟩ := hys4.getV hx
          obtain ⟨pr, hpr, rfl⟩ := map_at hn1
          obtain ⟨b, rfl, hb⟩ := (hxd.mono mv.2).pairI
          obtain ⟨g1, g2⟩ := hes pr (SWM.mem_srtP.mp (List.mem_of_getElem? hpr))
          have hil : i < es.length := by rw [← hyl]; exact hi
          obtain ⟨ru, hru⟩ : ∃ r, rows[pr.1]? = some r := ⟨_, List.getElem?_eq_getElem (by rw [hrl]; omega)⟩
          obtain ⟨rv, hrv⟩ : ∃ r, rows[pr.2]? = some r := ⟨_, List.getElem?_eq_getElem (by rw [hrl]; omega)⟩
          have mu := List.mem_of_getElem? hru
          have mv2 := List.mem_of_getElem? hrv
          obtain ⟨nu, hnu1, hnu2⟩ := hr6 ru mu
          refine ⟨_, _, rfl, SqT.of hb, rfl, _, _, rfl, _, _, rfl, rfl, ?_⟩
          refine ⟨_, rfl, _, _, _, _, rfl, hp6, rfl, _, rfl, _, _, _, V.ref ru, rfl, rfl, .inl hn6, atI_nat (v := V.ref ru) (by rw [List.getElem?_map, hru]; rfl), .inl ⟨rfl, _, SqL.of hnu1⟩, _, rfl, ru, _, _, rfl, rfl, hnu1, lt_line (by rw [List.length_map]; omega), ?_⟩
          have q1 : ru ≠ p := nrp ru mu
          have q2 : ru ≠ nr := (hr3 ru mu).1
          have p7 : (upd H6' ru (.lst (nu.map vN ++ [vN pr.2]))) p = some (.ins T.C_Graph dx (putF "_near" (.ref nr) (putF "edges" (.ref et) (putF "size" (vN n) [])))) := by rw [upd_ne q1.symm]; exact hp6
          have n7 : (upd H6' ru (.lst (nu.map vN ++ [vN pr.2]))) nr = some (.lst (rows.map V.ref)) := by rw [upd_ne q2.symm]; exact hn6
          have r7 : ∀ r ∈ rows, ∃ ns : List Nat, (upd H6' ru (.lst (nu.map vN ++ [vN pr.2]))) r = some (.lst (ns.map vN)) ∧ ns.length ≤ 2 * i + 1 := fun r hr => by
            by_cases z : r = ru
            · rw [z]; exact ⟨nu ++ [pr.2], by rw [upd_same]; simp, by simp; omega⟩
            · obtain ⟨ns, a1, a2⟩ := hr6 r hr
              exact ⟨ns, by rw [upd_ne z]; exact a1, by omega⟩
          have m7 : Mv [p] H4 (upd H6' ru (.lst (nu.map vN ++ [vN pr.2]))) := mv.putN (hr3 ru mu).2.1
          obtain ⟨nv, hnv1, hnv2⟩ := r7 rv mv2
          refine ⟨_, rfl, _, _, _, _, rfl, p7, rfl, _, rfl, _, _, _, V.ref rv, rfl, rfl, .inl n7, atI_nat (v := V.ref rv) (by rw [List.getElem?_map, hrv]; rfl), .inl ⟨rfl, _, SqL.of hnv1⟩, _, rfl, rv, _, _, rfl, rfl, hnv1, lt_line (by rw [List.length_map]; omega), ?_⟩
          refine ⟨_, _, rfl, m7.putN (hr3 rv mv2).2.1, by rw [upd_ne (nrp rv mv2).symm]; exact p7, by rw [upd_ne (hr3 rv mv2).1.symm]; exact n7, fun r hr => ?_⟩
          by_cases z : r = rv
          · rw [z]; exact ⟨nv ++ [pr.1], by rw [upd_same]; simp, by simp; omega⟩
          · obtain ⟨ns, a1, a2⟩ := r7 r hr
            exact ⟨ns, by rw [upd_ne z]; exact a1, by omega⟩
        · rintro σ H6 ⟨o5, o6, rfl, mv, hp6, hn6, hr6⟩
          refine ⟨_, rfl, _, _, _, _, rfl, hp6, rfl, nr, rfl, ⟨_, SqL.of hn6⟩, fun D hD => lc_it (walk_list (xs := rows.map V.ref)) (fun i H' => Same H6 H' ∧ ∃ acc, H' D = some (.lst acc) ∧ acc.length = i) ⟨same_new hD, [], upd_same, rfl⟩ (fun i H' _ p => SqL.of (p.1 _ _ hn6)) ?_ ?_⟩
          · rintro i x H7 H7' hi ⟨s7, acc, ha1, ha2⟩ ⟨rfl, hx⟩
            obtain ⟨r, hr, rfl⟩ := map_at hx
            obtain ⟨ns, b1, b2⟩ := hr6 r (List.mem_of_getElem? hr)
            have hi' : i < 61 := by rw [List.length_map, hrl] at hi; omega
            refine ⟨rfl, _, rfl, sortedN ns (.inl (s7 _ _ b1)) (.ofNats ns) fun p8 hp8 => ?_⟩
            have s8 := same_new (o := .lst ((SWM.srtN ns).map vN)) hp8
            exact ⟨acc, s8 _ _ ha1, lt_line (by omega), Same.put (s7.trans s8) hD, _, upd_same, by simp [ha2]⟩
          · rintro H7 ⟨s7, acc, ha1, ha2⟩
            refine ⟨_, rfl, _, _, _, _, rfl, s7 _ _ hp6, T.cl_Graph, T.n_Graph__near, (by show 3 < 1000; decide), ?_⟩
            have M8 := ((M4.trans mv).trans (Same.mv s7)).trans (Mv.one (u := .ins T.C_Graph dx (putF "_near" (.ref D) (putF "_near" (.ref nr) (putF "edges" (.ref et) (putF "size" (vN n) []))))) (s7 _ _ hp6) (fun _ z => by cases z))
            refine q _ M8 ⟨dx, _, .ref et, upd_same, rfl, rfl, ?_⟩
            have mm := (mv.trans (Same.mv s7)).trans (Mv.one (u := .ins T.C_Graph dx (putF "_near" (.ref D) (putF "_near" (.ref nr) (putF "edges" (.ref et) (putF "size" (vN n) []))))) (s7 _ _ hp6) (fun _ z => by cases z))
            exact .tup (mm.2 _ _ het4) (hys4.mono mm.2)
def sp_same (C : Addr) : Sp := fun vs H Q _ => ∃ (p q : Addr) (n m : Nat) (es fs : List (Nat × Nat)), vs = [.ref p, .ref q] ∧ GrAt C H p n es ∧ GrAt C H q m fs ∧ Q (.bl (decide (n = m) && decide (es = fs))) H
theorem ok_same (T : Txt K mg w) : FnOk P w K mg base CX0 1 T.f_same T.fd_same ["first", "second"] (sp_same T.C_Graph) := by
  refine T.F_same.ok sc_same (fun vs H Q E h => ?_) (fun cdv A0 outer s H vs Q E hr h => ?_)
  · obtain ⟨p, q, n, m, es, fs, rfl, _⟩ := h
    rfl
  · obtain ⟨p, q, n, m, es, fs, rfl, ⟨dx, f1, v1, a1, a2, a3, a4⟩, ⟨dy, f2, v2, b1, b2, b3, b4⟩, k⟩ := h
    have hu := hu65 hr
    refine ⟨_, PSs.nox (pss_one (ps_ret (pe_and (pe_cmpR op_eq (pe_f (C := T.C_Graph) (pv 0) T.cl_Graph T.n_Graph_size) (pe_f (C := T.C_Graph) (pv 1) T.cl_Graph T.n_Graph_size) (by first | exact nomark _ | with_unfolding_all rfl)) (pe_one (pe_cmpR (op_eqT (Nat.lt_of_succ_lt hu)) (pe_f (C := T.C_Graph) (pv 0) T.cl_Graph T.n_Graph_edges) (pe_f (C := T.C_Graph) (pv 1) T.cl_Graph T.n_Graph_edges) (by first | exact nomark _ | with_unfolding_all rfl))))))
    , ?_⟩
    refine ⟨_, rfl, _, _, _, _, rfl, a1, a2, _, rfl, _, _, _, _, rfl, b1, b2, rfl, _, rfl, ?_⟩
    rw [vdec]
    by_cases e : n = m
    · rw [decide_eq_true e] at k ⊢
      refine iteT ⟨_, rfl, _, _, _, _, rfl, a1, a3, _, rfl, _, _, _, _, rfl, b1, b3, dPs es, dPs fs, a4, b4, Nice.of (ni_Ps _) (by decide), Nice.of (ni_Ps _) (by decide), ?_⟩
      rw [eqv_Ps]
      exact k
    · rw [decide_eq_false e] at k ⊢
      exact iteF k
end
end SW


set_option maxRecDepth 100000
set_option maxHeartbeats 2000000
/-! built, made. -/
namespace SW
open PySem PySem.Spec PyProof.Rows L2
/-- a building that is finished -/
def BuiltAt (C : Addr) (H : Hp) (p : Addr) (tm : List SWM.Stp) : Prop := NumAt C H p (SWM.bld tm).bec (SWM.ordT tm).zipIdx ∧ ∃ dx fs lw ws, H p = some (.ins C dx fs) ∧ fs.lookup ("shown" : Str) = some (.ref lw) ∧ H lw = some (.lst ws) ∧ All2 (NL [] H) ws (SWM.bld tm).shw
theorem BuiltAt.same {C : Addr} {H H' : Hp} {p : Addr} {tm : List SWM.Stp} (h : BuiltAt C H p tm) (s : Same H H') : BuiltAt C H' p tm := by
  obtain ⟨h0, dx, fs, lw, ws, h1, h2, h3, h4⟩ := h
  exact ⟨h0.same s, dx, fs, lw, ws, s _ _ h1, h2, s _ _ h3, h4.mono fun _ _ z => z.mv (Same.mv s)⟩
section
variable {P : Program} {w : World} {K : PySem.W.Frag} {mg : Str → Option Value} {base : Heap}
def sp_built (C CG : Addr) : Sp := fun vs H Q _ => ∃ (v : V) (tm : List SWM.Stp) (k : Nat), vs = [v, vN k] ∧ TD H v (dT tm) ∧ TermOk tm k ∧ SWM.sizeT tm ≤ 60 ∧ ∀ H' t p gp x, Same H H' → H' t = some (.tup [.ref p, .ref gp, x]) → BuiltAt C H' p tm → GrAt CG H' gp (SWM.sizeT tm) (SWM.graphT tm) → Q (.ref t) H'
theorem ok_built (T : Txt K mg w) : FnOk P w K mg base CX0 6 T.f_built T.fd_built ["term", "k"] (sp_built T.C_Building T.C_Graph) := by
  refine T.F_built.ok sc_built (fun vs H Q E h => ?_) (fun cdv A0 outer s H vs Q E hr h => ?_)
  · obtain ⟨v, tm, k, rfl, _⟩ := h
    rfl
  · obtain ⟨v, tm, k, rfl, hv, ok, h60, q⟩ := h
    obtain ⟨f, ht⟩ := ok.term
    obtain ⟨t1, h_MOST_VERTICES⟩ := T.i_MOST_VERTICES
    refine ⟨_, PSs.nox (pss_cons (ps_expr (pe_call (ok_check_term T) (hr.mono (by decide)) rfl T.g_check_term T.F_check_term.kp (b_check_term T) .nil pass0 (pa_cons (pv 0) (pa_cons (pv 1) pa_nil))))
    (pss_cons (ps_set (i := 2) sc_built.nd rfl (Or.inl rfl) (pe_make0 T.mk_Building (ok_Building___init__ T) (hr.mono (by decide)) rfl T.gC_Building (b_Building___init__ T) .nil pass0))
    (pss_cons (ps_for PassesOwn.never rfl (pi_tup (pv 0)) (pg_name (i := 3) sc_built.nd rfl (Or.inl rfl))
    (pss_one (ps_expr (pe_meth (pv 2) T.cl_Building T.m_Building_take (ok_Building_take T) (hr.mono (by decide)) (b_Building_take T) .nil pass0 (pa_cons (pv 3) pa_nil)))))
    (pss_cons (ps_asg (pe_meth (pv 2) T.cl_Building T.m_Building_finish (ok_Building_finish T) (hr.mono (by decide)) (b_Building_finish T) .nil pass0 (pa_cons (pv 1) pa_nil)) (pg_tup (by rfl) (pgs_cons (pg_name (i := 4) sc_built.nd rfl (Or.inl rfl)) (pgs_cons (pg_name (i := 5) sc_built.nd rfl (Or.inl rfl)) (pgs_cons (pg_name (i := 6) sc_built.nd rfl (Or.inl rfl)) pgs_nil)))))
    (pss_cons (ps_if (pt_cmpR op_gt (pv 4) (pe_glob (v := .int 60) rfl h_MOST_VERTICES ⟨_, rfl⟩) (by first | exact nomark _ | with_unfolding_all rfl))
    (pss_one ps_never)
    pss_nil)
    (pss_one (ps_ret (pe_tup (pa_cons (pv 2) (pa_cons (pe_make T.mk_Graph (ok_Graph___init__ T) (hr.mono (by decide)) rfl T.gC_Graph (b_Graph___init__ T) .nil pass0 (pa_cons (pv 4) (pa_cons (pv 5) pa_nil))) (pa_cons (pv 6) pa_nil)))))))))))
    , ?_⟩
    obtain ⟨a, vt, rfl, ha, hvt⟩ := hv.tupI
    have hvl : vt.length = tm.length := by rw [hvt.length]; simp
    have hfew := ok.few
    refine ⟨_, rfl, _, rfl, _, tm, k, f, rfl, hv, ok, ht, fun H0 v0 sA _ => ?_⟩
    intro x dx hx hdx nxd
    have s0 : Same H0 (upd (upd H0 dx (.own x)) x (.ins T.C_Building dx [])) := Same.put (same_new hdx) hx
    refine ⟨H0, x, dx, rfl, s0, hx, upd_same, fun H1 A hAp hb1 => ⟨rfl, ?_⟩⟩
    subst hAp
    have ha0 := sA _ _ ha
    have hvt0 := hvt.mono (Same.t sA)
    refine ⟨_, rfl, a, rfl, ⟨_, SqT.of (hb1.same _ _ ha0)⟩, for_it (walk_tup (xs := vt)) (fun i σ H' => ∃ (o3 : Option V) (bf : Option (List (Nat × Nat))) (st : List SWM.Frm), σ = [some (.ref a), some (vN k), some (.ref A.p), o3, none, none, none] ∧ BdAt T.C_Building H0 H' A ((tm.take i).foldl SWM.takeB SWM.Bd.start) bf ∧
        SWM.runF (tm.take i) [] = some st ∧ SWM.BInv i ((tm.take i).foldl SWM.takeB SWM.Bd.start) st)
      ⟨none, none, [], rfl, hb1, rfl, SWM.BInv.start⟩ (fun i σ H' _ ⟨_, _, _, _, hb, _⟩ => SqT.of (hb.same _ _ ha0)) ?_ ?_⟩
    · rintro i y σ H2 H2' hi ⟨o3, bf, st, rfl, hb, hrun, hinv⟩ ⟨rfl, hy⟩
      obtain ⟨dd, hn, hyd⟩ := hvt0.getV hy
      obtain ⟨stp, hstp, rfl⟩ := map_at hn
      obtain ⟨st', hst', hrun'⟩ := SWM.run_at ht.run hstp hrun
      obtain ⟨hfi, hinv'⟩ := SWM.binv_step hinv hst'
      have hil : i < tm.length := by rw [← hvl]; exact hi
      obtain ⟨fs, hins, hbf, _⟩ := id hb.ins
      have e : tm.take (i + 1) = tm.take i ++ [stp] := by rw [List.take_add_one, hstp]; rfl
      have ef : (tm.take (i + 1)).foldl SWM.takeB SWM.Bd.start = SWM.takeB ((tm.take i).foldl SWM.takeB SWM.Bd.start) stp := by rw [e, List.foldl_append]; rfl
      have hsz := SWM.run_sz _ hrun
      have hcl := hinv.cor.len
      have htl : (tm.take i).length ≤ i := List.length_take_le _ _
      have z1 := hinv.sz
      have z2 := hinv.eds
      have z3 := hinv.shw
      have z4 := hsz.2
      simp only [List.length_nil] at z4
      refine ⟨_, rfl, A.p, _, _, rfl, hins, hbf.no1 "take" (by simp), _, rfl, H0, A, _, bf, _, stp, rfl, hb, hyd.mono (Same.t hb.same), hfi, hinv.nd, by omega, fun H3 bf3 m3 hb3 => ?_⟩
      exact ⟨_, bf3, st', rfl, by rw [ef]; exact hb3, hrun', by rw [ef]; exact hinv'⟩
    · rintro σ H2 ⟨o3, bf, st, rfl, hb, hrun, hinv⟩
      rw [hvl, List.take_length] at hb hrun hinv
      obtain ⟨fs, hins, hbf, _⟩ := id hb.ins
      have bok := SWM.bldOk_of ht
      have z1 := hinv.sz
      have z2 := hinv.eds
      have hol : (SWM.ordT tm).length ≤ 100000 := by
        obtain ⟨g, hg⟩ := bok.one
        have htop : SWM.topG (SWM.bld tm) = g := (SWM.top_of (S := []) (by simpa using hg)).1
        have e1 : SWM.ordT tm = g.2 := by unfold SWM.ordT; rw [htop]
        have e2 : SWM.sumG (SWM.bld tm).stk = SWM.szG g := by rw [hg, SWM.sumG_one]
        have e3 : (SWM.bld tm).bec.length + SWM.sumG (SWM.bld tm).stk ≤ 2 * tm.length := z1
        rw [e1]
        unfold SWM.szG at e2
        omega
      have hel : (SWM.bld tm).eds.length ≤ tm.length := z2
      refine ⟨_, rfl, A.p, _, _, rfl, hins, hbf.no1 "finish" (by simp), _, rfl, H0, A, bf, k, tm, rfl, hb, bok, ok.k12, hol, by omega, fun H3 t3 le vm m3 hnum hshw ht3 hle => ?_⟩
      have s3 := m3.same hb.same hb.free
      refine ⟨_, _, rfl, SqT.of ht3, rfl, _, _, rfl, _, _, rfl, _, _, rfl, rfl, ?_⟩
      refine ⟨_, rfl, _, _, rfl, rfl, _, rfl, ifF (decide_eq_false (by omega)) ?_⟩
      have gok := SWM.graph_ok ht
      refine ⟨_, rfl, _, rfl, _, rfl, ?_⟩
      intro x2 dx2 hx2 hdx2 nxd2
      have s4 : Same H3 (upd (upd H3 dx2 (.own x2)) x2 (.ins T.C_Graph dx2 [])) := Same.put (same_new hdx2) hx2
      have hee : (SWM.edgesT tm).length = (SWM.bld tm).eds.length := by simp [SWM.edgesT]
      refine ⟨x2, dx2, le, SWM.sizeT tm, SWM.edgesT tm, rfl, upd_same, LD.same hle s4, h60, gok.lt, gok.nd, by omega, fun H5 m5 hgr => ⟨rfl, ?_⟩⟩
      have s5 : Same H3 H5 := m5.same s4 fun b hb => by rw [List.mem_singleton.mp hb]; exact hx2
      refine ⟨_, rfl, three_line, fun t6 ht6 => ?_⟩
      have s6 := same_new (o := .tup [.ref A.p, .ref x2, vm]) ht6
      obtain ⟨dx3, fs3, ws, g1, g2, g3, g4⟩ := hshw
      have hbu : BuiltAt T.C_Building H3 A.p tm := ⟨hnum, dx3, fs3, A.lw, ws, g1, g2, g3, g4⟩
      exact q _ t6 A.p x2 vm (sA.trans (s3.trans (s5.trans s6))) upd_same (hbu.same (s5.trans s6)) (GrAt.same hgr s6)
def sp_made (CG : Addr) : Sp := fun vs H Q _ => ∃ (v : V) (tm : List SWM.Stp) (k : Nat), vs = [v, vN k] ∧ TD H v (dT tm) ∧ TermOk tm k ∧ SWM.sizeT tm ≤ 60 ∧ ∀ H' t gp x, Same H H' → H' t = some (.tup [.ref gp, x]) → GrAt CG H' gp (SWM.sizeT tm) (SWM.graphT tm) → Q (.ref t) H'
theorem ok_made (T : Txt K mg w) : FnOk P w K mg base CX0 7 T.f_made T.fd_made ["term", "k"] (sp_made T.C_Graph) := by
  refine T.F_made.ok sc_made (fun vs H Q E h => ?_) (fun cdv A0 outer s H vs Q E hr h => ?_)
  · obtain ⟨v, tm, k, rfl, _⟩ := h
    rfl
  · obtain ⟨v, tm, k, rfl, hv, ok, h60, q⟩ := h
    refine ⟨_, PSs.nox (pss_cons (ps_asg (pe_call (ok_built T) (hr.mono (by decide)) rfl T.g_built T.F_built.kp (b_built T) .nil pass0 (pa_cons (pv 0) (pa_cons (pv 1) pa_nil))) (pg_tup (by rfl) (pgs_cons (pg_name (i := 2) sc_made.nd rfl (Or.inl rfl)) (pgs_cons (pg_name (i := 3) sc_made.nd rfl (Or.inl rfl)) (pgs_cons (pg_name (i := 4) sc_made.nd rfl (Or.inl rfl)) pgs_nil)))))
    (pss_one (ps_ret (pe_tup (pa_cons (pv 3) (pa_cons (pv 4) pa_nil))))))
    , ?_⟩
    refine ⟨_, rfl, _, rfl, _, tm, k, rfl, hv, ok, h60, fun H1 t p gp x s1 ht1 _ hg => ?_⟩
    refine ⟨_, _, rfl, SqT.of ht1, rfl, _, _, rfl, _, _, rfl, _, _, rfl, rfl, ?_⟩
    refine ⟨_, rfl, _, rfl, two_line, fun t2 ht2 => ?_⟩
    have s2 := same_new (o := .tup [.ref gp, x]) ht2
    exact q _ t2 gp x (s1.trans s2) upd_same (GrAt.same hg s2)
end
end SW


set_option maxRecDepth 100000
set_option maxHeartbeats 2000000
/-! _is_tuple_of_vertices, _has_form, _tops, width_of. -/
namespace SW
open PySem PySem.Spec PyProof.Rows L2
def dB (B : List (List Nat)) : PyData := .tuple (B.map dNs)
def dI (P : List Int) : PyData := .tuple (P.map PyData.int)
theorem outM_range {n : Nat} {f : Nat → PyData} : outM (List.range n) f n = (List.range n).map f := by
  have h := outM_all (l := List.range n) (f := f)
  rw [List.length_range] at h
  exact h
theorem allT {α : Type} (l : List α) : (l.map fun _ => true).all id = true := by simp
theorem outT {α : Type} (l : List α) : l.map (fun _ => PyData.bool true) = (l.map fun _ => true).map PyData.bool := by simp
section
variable {P : Program} {w : World} {K : PySem.W.Frag} {mg : Str → Option Value} {base : Heap}
def sp__is_tuple_of_vertices : Sp := fun vs H Q _ => ∃ (v : V) (l : List Nat) (n : Nat), vs = [v, vN n] ∧ TD H v (dNs l) ∧ (∀ x ∈ l, x < n) ∧ l.Pairwise (· < ·) ∧ l.length ≤ 100000 ∧ ∀ H', Same H H' → Q (.bl true) H'
theorem ok__is_tuple_of_vertices (T : Txt K mg w) : FnOk P w K mg base CX0 2 T.f__is_tuple_of_vertices T.fd__is_tuple_of_vertices ["value", "size"] sp__is_tuple_of_vertices := by
  refine T.F__is_tuple_of_vertices.ok sc__is_tuple_of_vertices (fun vs H Q E h => ?_) (fun cdv A0 outer s H vs Q E hr h => ?_)
  · obtain ⟨v, l, n, rfl, _⟩ := h
    rfl
  · obtain ⟨v, l, n, rfl, hv, hlt, hpw, hlen, q⟩ := h
    obtain ⟨a, rfl, ha⟩ := hv.natsI
    refine ⟨_, PSs.nox (pss_cons (ps_if (PW.pt (pw_or (pt_not (pt_val (pe_callB call_isi rfl T.z_isinstance boot_isinstance (pa_cons (pv 0) (pa_cons (pe_bltn (v := .ty "tuple") rfl T.z_tuple boot_tuple rfl) pa_nil))))) (pw_or1 (pt_not (pt_val (pe_callB (cr_allL rfl) rfl T.z_all boot_all (pa_cons (pe_lc (own := [("vertex", 2)]) (g := gName 2) rfl sc__is_tuple_of_vertices.nd (pi_tup (pv 0)) (blkOk_by (N := ["value", "size", "vertex", "at"]) (sc := defScope s__is_tuple_of_vertices) (by decide +kernel)) (fun _ _ _ _ _ => pg_name (i := 2) sc__is_tuple_of_vertices.nd rfl (Or.inl rfl)) (fun _ _ _ _ _ => pts_nil) (fun _ _ _ _ _ => (pe_call (ok_is_integer T) (hr.mono (by decide)) rfl T.g_is_integer T.F_is_integer.kp (b_is_integer T) .nil pass0 (pa_cons (pv 2) (pa_cons pe_int (pa_cons (pe_op op_sub (pv 1) pe_int) pa_nil)))))) pa_nil)))))))
    (pss_one (ps_ret pe_bl))
    pss_nil)
    (pss_one (ps_ret (pe_callB (cr_allL rfl) rfl T.z_all boot_all (pa_cons (pe_lc (own := [("at", 3)]) (g := gName 3) rfl sc__is_tuple_of_vertices.nd (pi_range2 rfl T.z_range (pa_cons pe_int (pa_cons (pe_callB cr_len rfl T.z_len boot_len (pa_cons (pv 0) pa_nil)) pa_nil))) (blkOk_by (N := ["value", "size", "vertex", "at"]) (sc := defScope s__is_tuple_of_vertices) (by decide +kernel)) (fun _ _ _ _ _ => pg_name (i := 3) sc__is_tuple_of_vertices.nd rfl (Or.inl rfl)) (fun _ _ _ _ _ => pts_nil) (fun _ _ _ _ _ => (pe_cmpR op_lt (pe_ix op_ix (pv 0) (pe_op op_sub (pv 3) pe_int) (fun _ _ => rfl)) (pe_ix op_ix (pv 0) (pv 3) (fun _ _ => rfl)) (by first | exact nomark _ | with_unfolding_all rfl)))) pa_nil)))))
    , ?_⟩
    refine ⟨_, rfl, _, _, _, _, true, rfl, .ty _, .base (.tup ha), kit_ty (by decide +kernel), _, rfl, ?_⟩
    refine ⟨_, rfl, _, rfl, ⟨_, SqT.of ha⟩, fun D hD => lc_td (walk_tup (xs := l.map vN)) hD (outM l (fun _ => .bool true)) outM_0 (fun H h => SqT.of (h _ _ ha)) ?_ ?_⟩
    · rintro i x H1 H1' hi pl ⟨rfl, hx⟩
      obtain ⟨m, hm, rfl⟩ := map_at hx
      have hb := hlt m (List.mem_of_getElem? hm)
      refine ⟨rfl, _, rfl, _, rfl, _, _, rfl, rfl, _, _, _, rfl, ?_⟩
      have e : (decide ((0 : Int) ≤ (m : Int)) && decide ((m : Int) ≤ (n : Int) - 1)) = true := by
        rw [decide_eq_true (by omega), decide_eq_true (by omega)]; rfl
      rw [e, outM_yes hm]
      exact pl.add hD (Same.refl _) (.bl true) (lt_line (Nat.le_trans outM_len (by omega)))
    · intro H1 pl
      rw [show (l.map vN).length = l.length by simp, outM_all, outT] at pl
      refine ⟨D, _, rfl, pl.bools, _, rfl, ?_⟩
      rw [allT]
      refine iteF ?_
      have s1 := pl.1
      have hl1 : (((l.map vN).length : Int) - 1).toNat = l.length - 1 := by rw [List.length_map]; omega
      refine ⟨_, rfl, _, _, rfl, .inr (s1 _ _ ha), _, _, rfl, ⟨by omega, by omega, by omega, by rw [List.length_map]; omega⟩, fun D2 hD2 => lc_td walk_range hD2 (outM (List.range (l.length - 1)) (fun _ => .bool true)) outM_0 (fun H h => True.intro) ?_ ?_⟩
      · rintro i x H2 H2' hi pl2 ⟨rfl, rfl⟩
        rw [hl1] at hi
        have ha2 := pl2.1 _ _ (s1 _ _ ha)
        obtain ⟨y1, hy1⟩ : ∃ y, l[i]? = some y := ⟨_, List.getElem?_eq_getElem (by omega)⟩
        obtain ⟨y2, hy2⟩ : ∃ y, l[i + 1]? = some y := ⟨_, List.getElem?_eq_getElem (by omega)⟩
        have hr1 : (List.range (l.length - 1))[i]? = some i := by rw [List.getElem?_range hi]
        have hlt2 : y1 < y2 := by
          obtain ⟨g1, e1⟩ := List.getElem?_eq_some_iff.mp hy1
          obtain ⟨g2, e2⟩ := List.getElem?_eq_some_iff.mp hy2
          rw [← e1, ← e2]
          exact List.pairwise_iff_getElem.mp hpw i (i + 1) g1 g2 (by omega)
        refine ⟨rfl, _, rfl, _, rfl, _, _, rfl, rfl, _, _, _, vN y1, rfl, rfl, .inr ha2, atN (j := i) (by omega) (by rw [List.getElem?_map, hy1]; rfl), _, rfl, _, rfl, _, _, _, vN y2, rfl, rfl, .inr ha2, atN (j := i + 1) (by omega) (by rw [List.getElem?_map, hy2]; rfl), _, _, rfl, rfl, ?_⟩
        have ed : decide ((y1 : Int) < (y2 : Int)) = true := decide_eq_true (by omega)
        rw [outM_yes hr1]
        exact pl2.add hD2 (Same.refl _) (by show TD _ (V.bl (decide ((y1 : Int) < (y2 : Int)))) _; rw [ed]; exact .bl true) (lt_line (Nat.le_trans outM_len (by rw [List.length_range]; omega)))
      · intro H2 pl2
        rw [hl1, outM_range, outT] at pl2
        refine ⟨D2, _, rfl, pl2.bools, ?_⟩
        rw [allT]
        exact q _ (s1.trans pl2.1)
def sp__has_form (CG : Addr) : Sp := fun vs H Q _ => ∃ (gp : Addr) (vb vp : V) (n : Nat) (es : List (Nat × Nat)) (B : List (List Nat)) (Pa : List Int), vs = [.ref gp, vb, vp] ∧ GrAt CG H gp n es ∧ TD H vb (dB B) ∧ TD H vp (dI Pa) ∧ SWM.Dec n es B Pa ∧ B.length ≤ 100000 ∧ n ≤ 100000 ∧ ∀ H', Same H H' → Q (.bl true) H'
theorem dec_len {n : Nat} {l : List Nat} (h : ∀ x ∈ l, x < n) (p : l.Pairwise (· < ·)) : l.length ≤ n := by
  have hs : l ⊆ List.range n := fun x hx => List.mem_range.mpr (h x hx)
  have := (SWM.nodup_of_lt p).length_le_of_subset hs
  rw [List.length_range] at this
  exact this
theorem ok__has_form (T : Txt K mg w) : FnOk P w K mg base CX0 3 T.f__has_form T.fd__has_form ["graph", "bags", "parents"] (sp__has_form T.C_Graph) := by
  refine T.F__has_form.ok sc__has_form (fun vs H Q E h => ?_) (fun cdv A0 outer s H vs Q E hr h => ?_)
  · obtain ⟨gp, vb, vp, n, es, B, Pa, rfl, _⟩ := h
    rfl
  · obtain ⟨gp, vb, vp, n, es, B, Pa, rfl, ⟨dx, fs, ve, g1, g2, g3, g4⟩, hb, hp, D0, hz1, hz2, q⟩ := h
    refine ⟨_, PSs.nox (pss_cons (ps_if (PW.pt (pw_or (pt_not (pt_val (pe_callB call_isi rfl T.z_isinstance boot_isinstance (pa_cons (pv 1) (pa_cons (pe_bltn (v := .ty "tuple") rfl T.z_tuple boot_tuple rfl) pa_nil))))) (pw_or (pt_not (pt_val (pe_callB call_isi rfl T.z_isinstance boot_isinstance (pa_cons (pv 2) (pa_cons (pe_bltn (v := .ty "tuple") rfl T.z_tuple boot_tuple rfl) pa_nil))))) (pw_or (pt_cmpR op_ne (pe_callB cr_len rfl T.z_len boot_len (pa_cons (pv 1) pa_nil)) (pe_callB cr_len rfl T.z_len boot_len (pa_cons (pv 2) pa_nil)) (by first | exact nomark _ | with_unfolding_all rfl)) (pw_or1 (pt_cmpR op_eq (pe_callB cr_len rfl T.z_len boot_len (pa_cons (pv 1) pa_nil)) pe_int (by first | exact nomark _ | with_unfolding_all rfl)))))))
    (pss_one (ps_ret pe_bl))
    pss_nil)
    (pss_cons (ps_if (PW.pt (pw_or (pt_not (pt_val (pe_callB (cr_allL rfl) rfl T.z_all boot_all (pa_cons (pe_lc (own := [("bag", 3)]) (g := gName 3) rfl sc__has_form.nd (pi_tup (pv 1)) (blkOk_by (N := ["graph", "bags", "parents", "bag", "at"]) (sc := defScope s__has_form) (by decide +kernel)) (fun _ _ _ _ _ => pg_name (i := 3) sc__has_form.nd rfl (Or.inl rfl)) (fun _ _ _ _ _ => pts_nil) (fun _ _ _ _ _ => (pe_call (ok__is_tuple_of_vertices T) (hr.mono (by decide)) rfl T.g__is_tuple_of_vertices T.F__is_tuple_of_vertices.kp (b__is_tuple_of_vertices T) .nil pass0 (pa_cons (pv 3) (pa_cons (pe_f (C := T.C_Graph) (pv 0) T.cl_Graph T.n_Graph_size) pa_nil))))) pa_nil)))) (pw_or1 (pt_not (pt_val (pe_call (ok_is_integer T) (hr.mono (by decide)) rfl T.g_is_integer T.F_is_integer.kp (b_is_integer T) .nil pass0 (pa_cons (pe_ix op_ix (pv 2) pe_int (fun _ _ => rfl)) (pa_cons (pe_un un_neg pe_int) (pa_cons (pe_un un_neg pe_int) pa_nil)))))))))
    (pss_one (ps_ret pe_bl))
    pss_nil)
    (pss_one (ps_ret (pe_callB (cr_allL rfl) rfl T.z_all boot_all (pa_cons (pe_lc (own := [("at", 4)]) (g := gName 4) rfl sc__has_form.nd (pi_range2 rfl T.z_range (pa_cons pe_int (pa_cons (pe_callB cr_len rfl T.z_len boot_len (pa_cons (pv 2) pa_nil)) pa_nil))) (blkOk_by (N := ["graph", "bags", "parents", "bag", "at"]) (sc := defScope s__has_form) (by decide +kernel)) (fun _ _ _ _ _ => pg_name (i := 4) sc__has_form.nd rfl (Or.inl rfl)) (fun _ _ _ _ _ => pts_nil) (fun _ _ _ _ _ => (pe_call (ok_is_integer T) (hr.mono (by decide)) rfl T.g_is_integer T.F_is_integer.kp (b_is_integer T) .nil pass0 (pa_cons (pe_ix op_ix (pv 2) (pv 4) (fun _ _ => rfl)) (pa_cons pe_int (pa_cons (pe_op op_sub (pv 4) pe_int) pa_nil)))))) pa_nil))))))
    , ?_⟩
    obtain ⟨b, bs, rfl, hb1, hb2⟩ := hb.tupI
    obtain ⟨p, ps, rfl, hp1, hp2⟩ := hp.tupI
    have hbl : bs.length = B.length := by rw [hb2.length]; simp
    have hpl : ps = Pa.map V.int := hp2.ints
    have hpn : ps.length = B.length := by rw [hpl, List.length_map, D0.len]
    have hBne : 0 < B.length := List.length_pos_iff.mpr D0.ne
    refine ⟨_, rfl, _, _, _, _, true, rfl, .ty _, .base (.tup hb1), kit_ty (by decide +kernel), _, rfl, iteF ?_⟩
    refine ⟨_, rfl, _, _, _, _, true, rfl, .ty _, .base (.tup hp1), kit_ty (by decide +kernel), _, rfl, iteF ?_⟩
    refine ⟨_, rfl, _, _, rfl, .inr hb1, _, rfl, _, _, rfl, .inr hp1, rfl, _, rfl, ifF (by rw [veq (by rw [hbl, hpn])]; rfl) ?_⟩
    refine ⟨_, rfl, _, _, rfl, .inr hb1, rfl, _, rfl, ifF (vne (by rw [hbl]; omega)) ?_⟩
    refine ⟨_, rfl, _, rfl, ⟨_, SqT.of hb1⟩, fun D hD => lc_td (walk_tup (xs := bs)) hD (outM B (fun _ => .bool true)) outM_0 (fun H h => SqT.of (h _ _ hb1)) ?_ ?_⟩
    · rintro i x H1 H1' hi pl ⟨rfl, hx⟩
      obtain ⟨dd, hn1, hxd⟩ := hb2.getV hx
      obtain ⟨bag, hbag, rfl⟩ := map_at hn1
      have hm := List.mem_of_getElem? hbag
      refine ⟨rfl, _, rfl, _, rfl, _, _, _, _, rfl, pl.1 _ _ g1, g2, _, bag, n, rfl, hxd.mono (Same.t pl.1), D0.mem bag hm, D0.asc bag hm, Nat.le_trans (dec_len (D0.mem bag hm) (D0.asc bag hm)) hz2, fun H2 s2 => ?_⟩
      rw [outM_yes hbag]
      exact pl.add hD s2 (.bl true) (lt_line (Nat.le_trans outM_len (by omega)))
    · intro H1 pl
      rw [show bs.length = B.length from hbl, outM_all, outT] at pl
      have s1 := pl.1
      refine ⟨D, _, rfl, pl.bools, _, rfl, ?_⟩
      rw [allT]
      refine iteF ?_
      obtain ⟨p0, hp0⟩ : ∃ x, ps[0]? = some x := ⟨_, List.getElem?_eq_getElem (by omega)⟩
      have hp0' : p0 = .int (-1) := by
        have e := hp0
        rw [hpl, List.getElem?_map, D0.p0] at e
        exact (Option.some.inj e).symm
      subst hp0'
      refine ⟨_, rfl, _, _, _, V.int (-1), rfl, rfl, .inr (s1 _ _ hp1), atN (j := 0) rfl hp0, _, rfl, _, rfl, _, _, _, rfl, _, rfl, ?_⟩
      refine ifF (by decide) ?_
      have hl1 : ((ps.length : Int) - 1).toNat = B.length - 1 := by omega
      refine ⟨_, rfl, _, _, rfl, .inr (s1 _ _ hp1), _, _, rfl, ⟨by omega, by omega, by omega, by omega⟩, fun D2 hD2 => lc_td walk_range hD2 (outM (List.range (B.length - 1)) (fun _ => .bool true)) outM_0 (fun H h => True.intro) ?_ ?_⟩
      · rintro i x H2 H2' hi pl2 ⟨rfl, rfl⟩
        rw [hl1] at hi
        have hp2' := pl2.1 _ _ (s1 _ _ hp1)
        obtain ⟨j, hj1, hj2⟩ := D0.par (i + 1) (by omega) (by omega)
        have hpj : ps[i + 1]? = some (.int (j : Int)) := by rw [hpl, List.getElem?_map, hj1]; rfl
        have hr1 : (List.range (B.length - 1))[i]? = some i := by rw [List.getElem?_range hi]
        refine ⟨rfl, _, rfl, _, rfl, _, _, _, V.int (j : Int), rfl, rfl, .inr hp2', atN (j := i + 1) (by omega) hpj, _, rfl, _, _, rfl, rfl, _, _, _, rfl, ?_⟩
        have e : (decide ((0 : Int) ≤ (j : Int)) && decide ((j : Int) ≤ 1 + (i : Int) - 1)) = true := by
          rw [decide_eq_true (by omega), decide_eq_true (by omega)]; rfl
        rw [e, outM_yes hr1]
        exact pl2.add hD2 (Same.refl _) (.bl true) (lt_line (Nat.le_trans outM_len (by rw [List.length_range]; omega)))
      · intro H2 pl2
        rw [hl1, outM_range, outT] at pl2
        refine ⟨D2, _, rfl, pl2.bools, ?_⟩
        rw [allT]
        exact q _ (s1.trans pl2.1)
def sp_width_of : Sp := fun vs H Q _ => ∃ (vb : V) (B : List (List Nat)) (k : Nat), vs = [vb] ∧ TD H vb (dB B) ∧ B ≠ [] ∧ (∀ b ∈ B, b.length ≤ k + 1) ∧ B.length ≤ 100000 ∧ ∀ H' (m : Int), Same H H' → m ≤ k → Q (.int m) H'
theorem ok_width_of (T : Txt K mg w) : FnOk P w K mg base CX0 1 T.f_width_of T.fd_width_of ["bags"] sp_width_of := by
  refine T.F_width_of.ok sc_width_of (fun vs H Q E h => ?_) (fun cdv A0 outer s H vs Q E hr h => ?_)
  · obtain ⟨vb, B, k, rfl, _⟩ := h
    rfl
  · obtain ⟨vb, B, k, rfl, hb, hne, hk, hz, q⟩ := h
    refine ⟨_, PSs.nox (pss_one (ps_ret (pe_op op_sub (pe_callB (cr_maxL rfl) rfl T.z_max boot_max (pa_cons (pe_lc (own := [("bag", 1)]) (g := gName 1) rfl sc_width_of.nd (pi_tup (pv 0)) (blkOk_by (N := ["bags", "bag"]) (sc := defScope s_width_of) (by decide +kernel)) (fun _ _ _ _ _ => pg_name (i := 1) sc_width_of.nd rfl (Or.inl rfl)) (fun _ _ _ _ _ => pts_nil) (fun _ _ _ _ _ => (pe_callB cr_len rfl T.z_len boot_len (pa_cons (pv 1) pa_nil)))) pa_nil)) pe_int)))
    , ?_⟩
    obtain ⟨b, bs, rfl, hb1, hb2⟩ := hb.tupI
    have hbl : bs.length = B.length := by rw [hb2.length]; simp
    refine ⟨_, rfl, _, rfl, ⟨_, SqT.of hb1⟩, fun D hD => lc_td (walk_tup (xs := bs)) hD (outM B (fun b => dN b.length)) outM_0 (fun H h => SqT.of (h _ _ hb1)) ?_ ?_⟩
    · rintro i x H1 H1' hi pl ⟨rfl, hx⟩
      obtain ⟨dd, hn1, hxd⟩ := hb2.getV hx
      obtain ⟨bag, hbag, rfl⟩ := map_at hn1
      obtain ⟨c, rfl, hc⟩ := (hxd.mono (Same.t pl.1)).natsI
      refine ⟨rfl, _, rfl, _, _, rfl, .inr hc, ?_⟩
      rw [outM_yes hbag]
      exact pl.add hD (Same.refl _) (by rw [List.length_map]; exact .int _) (lt_line (Nat.le_trans outM_len (by omega)))
    · intro H1 pl
      rw [hbl, outM_all, show B.map (fun b => dN b.length) = (B.map List.length).map dN by simp] at pl
      have e : (B.map List.length).map vN = (B.map fun b => (b.length : Int)).map V.int := by simp [vN]
      have hh := pl.nats
      rw [e] at hh
      have hB := List.length_pos_iff.mpr hne
      refine ⟨D, _, rfl, hh, by rw [List.length_map]; omega, fun m hm _ => ⟨_, _, rfl, rfl, q _ _ pl.1 ?_⟩⟩
      obtain ⟨b, hb, rfl⟩ := List.mem_map.mp hm
      have := hk b hb
      omega
end
end SW


set_option maxRecDepth 100000
set_option maxHeartbeats 2000000
/-! _tops, fault. -/
namespace SW
open PySem PySem.Spec PyProof.Rows L2
section
variable {P : Program} {w : World} {K : PySem.W.Frag} {mg : Str → Option Value} {base : Heap}
def sp__tops : Sp := fun vs H Q _ => ∃ (vb vp : V) (n : Nat) (es : List (Nat × Nat)) (B : List (List Nat)) (Pa : List Int) (v : Nat), vs = [vb, vp, vN v] ∧ TD H vb (dB B) ∧ TD H vp (dI Pa) ∧ SWM.Dec n es B Pa ∧ B.length ≤ 100000 ∧ Q (vN (SWM.tops B Pa v)) H
theorem tops_succ (B : List (List Nat)) (Pa : List Int) (v i : Nat) : ((List.range (i + 1)).filter (SWM.isTop B Pa v)).length = ((List.range i).filter (SWM.isTop B Pa v)).length + (if SWM.isTop B Pa v i = true then 1 else 0) := by
  rw [List.range_succ, List.filter_append, List.length_append]
  by_cases h : SWM.isTop B Pa v i = true
  · simp [h]
  · simp [h]
theorem ok__tops (T : Txt K mg w) : FnOk P w K mg base CX0 1 T.f__tops T.fd__tops ["bags", "parents", "vertex"] sp__tops := by
  refine T.F__tops.ok sc__tops (fun vs H Q E h => ?_) (fun cdv A0 outer s H vs Q E hr h => ?_)
  · obtain ⟨vb, vp, n, es, B, Pa, v, rfl, _⟩ := h
    rfl
  · obtain ⟨vb, vp, n, es, B, Pa, v, rfl, hb, hp, D0, hz, q⟩ := h
    have hu := hu65 hr
    refine ⟨_, PSs.nox (pss_cons (ps_set (i := 3) sc__tops.nd rfl (Or.inl rfl) pe_int)
    (pss_cons (ps_for PassesOwn.never rfl (pi_range1 rfl T.z_range (pa_cons (pe_callB cr_len rfl T.z_len boot_len (pa_cons (pv 0) pa_nil)) pa_nil)) (pg_name (i := 4) sc__tops.nd rfl (Or.inl rfl))
    (pss_one (ps_if (PW.pt (pw_and (pt_cmpR (op_inT (Nat.lt_of_succ_lt hu)) (pv 2) (pe_ix op_ix (pv 0) (pv 4) (fun _ _ => rfl)) (by first | exact nomark _ | with_unfolding_all rfl)) (pw_and1 (PW.pt (pw_or (pt_cmpR op_eq (pv 4) pe_int (by first | exact nomark _ | with_unfolding_all rfl)) (pw_or1 (pt_cmpR (op_notInT (Nat.lt_of_succ_lt hu)) (pv 2) (pe_ix op_ix (pv 0) (pe_ix op_ix (pv 1) (pv 4) (fun _ _ => rfl)) (fun _ _ => rfl)) (by first | exact nomark _ | with_unfolding_all rfl))))))))
    (pss_one (ps_aug (i := 3) sc__tops.nd rfl (Or.inl rfl) pe_int ip_add))
    pss_nil)))
    (pss_one (ps_ret (pv 3)))))
    , ?_⟩
    obtain ⟨b, bs, rfl, hb1, hb2⟩ := hb.tupI
    obtain ⟨p, ps, rfl, hp1, hp2⟩ := hp.tupI
    have hbl : bs.length = B.length := by rw [hb2.length]; simp
    have hpl : ps = Pa.map V.int := hp2.ints
    refine ⟨_, rfl, _, _, rfl, .inr hb1, bs.length, rfl, by omega, by omega, ?_⟩
    refine for_it walk_range (fun i σ H' => ∃ o4 : Option V, σ = [some (.ref b), some (.ref p), some (vN v), some (vN ((List.range i).filter (SWM.isTop B Pa v)).length), o4] ∧ H' = H) ⟨none, rfl, rfl⟩ (fun i σ H' _ _ => True.intro) ?_ ?_
    · rintro i x σ H1 H1' hi ⟨o4, rfl, rfl⟩ ⟨rfl, rfl⟩
      have hi' : i < B.length := by rw [← hbl]; omega
      obtain ⟨bv, hbv1, hbv2⟩ := hb2.get (i := i) (d := dNs (SWM.bagAt B i)) (by
        rw [List.getElem?_map, List.getElem?_eq_getElem hi']
        unfold SWM.bagAt
        rw [List.getD_eq_getElem?_getD, List.getElem?_eq_getElem hi']; rfl)
      have contT : SWM.isTop B Pa v i = true → vN ((List.range (i + 1)).filter (SWM.isTop B Pa v)).length = V.int ((((List.range i).filter (SWM.isTop B Pa v)).length : Int) + 1) := fun e => by
        rw [tops_succ, if_pos e]; simp [vN]
      have contF : ¬ SWM.isTop B Pa v i = true → vN ((List.range (i + 1)).filter (SWM.isTop B Pa v)).length = vN ((List.range i).filter (SWM.isTop B Pa v)).length := fun e => by
        rw [tops_succ, if_neg e]; rfl
      refine ⟨_, rfl, _, rfl, _, rfl, _, _, _, bv, rfl, rfl, .inr hb1, atN (j := i) (by omega) hbv1, dN v, (SWM.bagAt B i).map dN, .int _, hbv2, Nice.of (ni_N v) (by decide), ⟨(niceAll_map ni_N _).lay, Nat.le_trans (niceAll_map ni_N _).dep (by decide)⟩, _, rfl, ?_⟩
      rw [any_map eqv_N]
      refine ite2 (fun h1 => ?_) (fun h1 => ?_)
      · have h1' : v ∈ SWM.bagAt B i := of_decide_eq_true h1
        refine ⟨_, rfl, rfl, _, rfl, ?_⟩
        by_cases e0 : i = 0
        · refine ifT (veq (by omega)) ?_
          refine ⟨_, rfl, _, _, rfl, rfl, some (.int (0 + (i : Int))), ?_, rfl⟩
          rw [contT (decide_eq_true ⟨h1', .inl e0⟩)]; rfl
        · refine ifF (vne (by omega)) ?_
          obtain ⟨j, hj1, hj2⟩ := D0.par i (by omega) hi'
          have hpj : ps[i]? = some (.int (j : Int)) := by rw [hpl, List.getElem?_map, hj1]; rfl
          have hpo : SWM.parOf Pa i = j := by
            unfold SWM.parOf
            rw [List.getD_eq_getElem?_getD, hj1]; simp
          obtain ⟨bw, hbw1, hbw2⟩ := hb2.get (i := j) (d := dNs (SWM.bagAt B j)) (by
            rw [List.getElem?_map, List.getElem?_eq_getElem (by omega : j < B.length)]
            unfold SWM.bagAt
            rw [List.getD_eq_getElem?_getD, List.getElem?_eq_getElem (by omega : j < B.length)]; rfl)
          refine ⟨_, rfl, _, rfl, _, rfl, _, rfl, _, _, _, V.int (j : Int), rfl, rfl, .inr hp1, atN (j := i) (by omega) hpj, _, _, _, bw, rfl, rfl, .inr hb1, atI_nat hbw1, dN v, (SWM.bagAt B j).map dN, .int _, hbw2, Nice.of (ni_N v) (by decide), ⟨(niceAll_map ni_N _).lay, Nat.le_trans (niceAll_map ni_N _).dep (by decide)⟩, _, rfl, ?_⟩
          rw [any_map eqv_N]
          by_cases e1 : v ∈ SWM.bagAt B j
          · rw [decide_eq_true e1]
            refine iteF ?_
            refine ⟨some (.int (0 + (i : Int))), ?_, rfl⟩
            rw [contF (fun z => by
              obtain ⟨_, z⟩ := of_decide_eq_true z
              rcases z with z | z
              · exact e0 z
              · rw [hpo] at z; exact z e1)]; rfl
          · rw [decide_eq_false e1]
            refine iteT ?_
            refine ⟨_, rfl, _, _, rfl, rfl, some (.int (0 + (i : Int))), ?_, rfl⟩
            rw [contT (decide_eq_true ⟨h1', .inr (by rw [hpo]; exact e1)⟩)]; rfl
      · have h1' : ¬ v ∈ SWM.bagAt B i := fun z => h1 (decide_eq_true z)
        refine ⟨some (.int (0 + (i : Int))), ?_, rfl⟩
        rw [contF (fun z => h1' (of_decide_eq_true z).1)]; rfl
    · rintro σ H1 ⟨o4, rfl, rfl⟩
      refine ⟨_, rfl, ?_⟩
      have e : ((bs.length : Int)).toNat = B.length := by omega
      rw [e]
      exact q
def sp_fault (CG : Addr) : Sp := fun vs H Q _ => ∃ (gp : Addr) (vb vp : V) (n : Nat) (es : List (Nat × Nat)) (B : List (List Nat)) (Pa : List Int), vs = [.ref gp, vb, vp] ∧ GrAt CG H gp n es ∧ TD H vb (dB B) ∧ TD H vp (dI Pa) ∧ SWM.Dec n es B Pa ∧ B.length ≤ 100000 ∧ n ≤ 100000 ∧ ∀ H', Same H H' → Q .non H'
theorem ok_fault (T : Txt K mg w) : FnOk P w K mg base CX0 4 T.f_fault T.fd_fault ["graph", "bags", "parents"] (sp_fault T.C_Graph) := by
  refine T.F_fault.ok sc_fault (fun vs H Q E h => ?_) (fun cdv A0 outer s H vs Q E hr h => ?_)
  · obtain ⟨gp, vb, vp, n, es, B, Pa, rfl, _⟩ := h
    rfl
  · obtain ⟨gp, vb, vp, n, es, B, Pa, rfl, hg, hb, hp, D0, hz1, hz2, q⟩ := h
    have hu := hu65 hr
    refine ⟨_, PSs.nox (pss_cons (ps_if (pt_not (pt_val (pe_call (ok__has_form T) (hr.mono (by decide)) rfl T.g__has_form T.F__has_form.kp (b__has_form T) .nil pass0 (pa_cons (pv 0) (pa_cons (pv 1) (pa_cons (pv 2) pa_nil))))))
    (pss_one ps_never)
    pss_nil)
    (pss_cons (ps_for PassesOwn.never rfl (pi_range1 rfl T.z_range (pa_cons (pe_f (C := T.C_Graph) (pv 0) T.cl_Graph T.n_Graph_size) pa_nil)) (pg_name (i := 3) sc_fault.nd rfl (Or.inr rfl))
    (pss_one (ps_if (pt_not (pt_val (pe_callB (cr_anyL rfl) rfl T.z_any boot_any (pa_cons (pe_lc (own := [("bag", 6)]) (g := gName 6) rfl sc_fault.nd (pi_tup (pv 1)) (blkOk_by (N := ["graph", "bags", "parents", "vertex", "u", "v", "bag"]) (sc := defScope s_fault) (by decide +kernel)) (fun _ _ _ _ _ => pg_name (i := 6) sc_fault.nd rfl (Or.inl rfl)) (fun _ _ _ _ _ => pts_nil) (fun _ _ _ _ _ => (pe_cmpR (op_inT (Nat.lt_of_succ_lt hu)) (pv 3) (pv 6) (by first | exact nomark _ | with_unfolding_all rfl)))) pa_nil))))
    (pss_one ps_never)
    pss_nil)))
    (pss_cons (ps_for PassesOwn.never rfl (pi_tup (pe_f (C := T.C_Graph) (pv 0) T.cl_Graph T.n_Graph_edges)) (pg_tup rfl (pgs_cons (pg_name (i := 4) sc_fault.nd rfl (Or.inr rfl)) (pgs_cons (pg_name (i := 5) sc_fault.nd rfl (Or.inr rfl)) pgs_nil)))
    (pss_one (ps_if (pt_not (pt_val (pe_callB (cr_anyL rfl) rfl T.z_any boot_any (pa_cons (pe_lc (own := [("bag", 6)]) (g := gName 6) rfl sc_fault.nd (pi_tup (pv 1)) (blkOk_by (N := ["graph", "bags", "parents", "vertex", "u", "v", "bag"]) (sc := defScope s_fault) (by decide +kernel)) (fun _ _ _ _ _ => pg_name (i := 6) sc_fault.nd rfl (Or.inl rfl)) (fun _ _ _ _ _ => pts_nil) (fun _ _ _ _ _ => (pe_and (pe_cmpR (op_inT (Nat.lt_of_succ_lt hu)) (pv 4) (pv 6) (by first | exact nomark _ | with_unfolding_all rfl)) (pe_one (pe_cmpR (op_inT (Nat.lt_of_succ_lt hu)) (pv 5) (pv 6) (by first | exact nomark _ | with_unfolding_all rfl)))))) pa_nil))))
    (pss_one ps_never)
    pss_nil)))
    (pss_cons (ps_for PassesOwn.never rfl (pi_range1 rfl T.z_range (pa_cons (pe_f (C := T.C_Graph) (pv 0) T.cl_Graph T.n_Graph_size) pa_nil)) (pg_name (i := 3) sc_fault.nd rfl (Or.inr rfl))
    (pss_one (ps_if (pt_cmpR op_gt (pe_call (ok__tops T) (hr.mono (by decide)) rfl T.g__tops T.F__tops.kp (b__tops T) .nil pass0 (pa_cons (pv 1) (pa_cons (pv 2) (pa_cons (pv 3) pa_nil)))) pe_int (by first | exact nomark _ | with_unfolding_all rfl))
    (pss_one ps_never)
    pss_nil)))
    (pss_one (ps_ret pe_non))))))
    , ?_⟩
    refine ⟨_, rfl, _, rfl, _, rfl, gp, _, _, n, es, B, Pa, rfl, hg, hb, hp, D0, hz1, hz2, fun H0 s0 => ?_⟩
    refine ⟨_, rfl, iteF ?_⟩
    obtain ⟨dx, fs, ve, g1, g2, g3, g4⟩ := hg
    obtain ⟨b, bs, rfl, hb1, hb2⟩ := hb.tupI
    have hbl : bs.length = B.length := by rw [hb2.length]; simp
    -- each vertex
    refine ⟨_, rfl, _, _, _, _, rfl, s0 _ _ g1, g2, n, rfl, by omega, by omega, ?_⟩
    refine for_it walk_range (fun i σ H' => ∃ o3 : Option V, σ = [some (.ref gp), some (.ref b), some vp, o3, none, none, none] ∧ Same H H') ⟨none, rfl, s0⟩ (fun i σ H' _ _ => True.intro) ?_ ?_
    · rintro i x σ H1 H1' hi ⟨o3, rfl, s1⟩ ⟨rfl, rfl⟩
      have hi' : i < n := by omega
      have e0 : (0 : Int) + (i : Int) = (i : Int) := by omega
      refine ⟨_, rfl, _, rfl, ⟨_, SqT.of (s1 _ _ hb1)⟩, fun D hD => lc_td (walk_tup (xs := bs)) hD (outM B (fun c => .bool (decide (i ∈ c)))) outM_0 (fun H h => SqT.of (h _ _ (s1 _ _ hb1))) ?_ ?_⟩
      · rintro j y H2 H2' hj pl ⟨rfl, hy⟩
        obtain ⟨dd, hn1, hxd⟩ := hb2.getV hy
        obtain ⟨bag, hbag, rfl⟩ := map_at hn1
        refine ⟨rfl, _, rfl, _, rfl, dN i, bag.map dN, by show TD _ (V.int (0 + (i : Int))) _; rw [e0]; exact .int _, hxd.mono (Same.t (s1.trans pl.1)), Nice.of (ni_N i) (by decide), ⟨(niceAll_map ni_N _).lay, Nat.le_trans (niceAll_map ni_N _).dep (by decide)⟩, ?_⟩
        rw [any_map eqv_N, outM_yes hbag]
        exact pl.add hD (Same.refl _) TD.blp (lt_line (Nat.le_trans outM_len (by omega)))
      · intro H2 pl
        rw [hbl, outM_all, show B.map (fun c => PyData.bool (decide (i ∈ c))) = (B.map fun c => decide (i ∈ c)).map PyData.bool by simp] at pl
        refine ⟨D, _, rfl, pl.bools, _, rfl, ?_⟩
        obtain ⟨c, hc1, hc2⟩ := D0.ver i hi'
        have ea : (B.map fun c => decide (i ∈ c)).any id = true := by
          rw [List.any_eq_true]
          exact ⟨true, List.mem_map.mpr ⟨c, hc1, decide_eq_true hc2⟩, rfl⟩
        rw [ea]
        refine iteF ?_
        exact ⟨_, rfl, s1.trans pl.1⟩
    · rintro σ H1 ⟨o3, rfl, s1⟩
      -- each edge
      obtain ⟨et, ys, rfl, he1, he2⟩ := g4.tupI
      have hyl : ys.length = es.length := by rw [he2.length]; simp
      refine ⟨_, rfl, _, _, _, _, rfl, s1 _ _ g1, g3, et, rfl, ⟨_, SqT.of (s1 _ _ he1)⟩, for_it (walk_tup (xs := ys)) (fun i σ H' => ∃ o3 o4 o5 : Option V, σ = [some (.ref gp), some (.ref b), some vp, o3, o4, o5, none] ∧ Same H H') ⟨o3, none, none, rfl, s1⟩ (fun i σ H' _ ⟨_, _, _, _, ss⟩ => SqT.of (ss _ _ he1)) ?_ ?_⟩
      · rintro i x σ H2 H2' hi ⟨o3, o4, o5, rfl, s2⟩ ⟨rfl, hx⟩
        obtain ⟨dd, hn1, hxd⟩ := he2.getV hx
        obtain ⟨pr, hpr, rfl⟩ := map_at hn1
        obtain ⟨c, rfl, hc⟩ := (hxd.mono (Same.t s2)).pairI
        refine ⟨_, _, rfl, SqT.of hc, rfl, _, _, rfl, _, _, rfl, rfl, ?_⟩
        refine ⟨_, rfl, _, rfl, ⟨_, SqT.of (s2 _ _ hb1)⟩, fun D hD => lc_td (walk_tup (xs := bs)) hD (outM B (fun c => .bool (decide (pr.1 ∈ c) && decide (pr.2 ∈ c)))) outM_0 (fun H h => SqT.of (h _ _ (s2 _ _ hb1))) ?_ ?_⟩
        · rintro j y H3 H3' hj pl ⟨rfl, hy⟩
          obtain ⟨dd, hn1, hxd⟩ := hb2.getV hy
          obtain ⟨bag, hbag, rfl⟩ := map_at hn1
          have hyd := hxd.mono (Same.t (s2.trans pl.1))
          refine ⟨rfl, _, rfl, _, rfl, dN pr.1, bag.map dN, .int _, hyd, Nice.of (ni_N _) (by decide), ⟨(niceAll_map ni_N _).lay, Nat.le_trans (niceAll_map ni_N _).dep (by decide)⟩, _, rfl, ?_⟩
          rw [any_map eqv_N, outM_yes hbag]
          by_cases e1 : pr.1 ∈ bag
          · rw [decide_eq_true e1, Bool.true_and]
            refine iteT ⟨_, rfl, _, rfl, dN pr.2, bag.map dN, .int _, hyd, Nice.of (ni_N _) (by decide), ⟨(niceAll_map ni_N _).lay, Nat.le_trans (niceAll_map ni_N _).dep (by decide)⟩, ?_⟩
            rw [any_map eqv_N]
            exact pl.add hD (Same.refl _) TD.blp (lt_line (Nat.le_trans outM_len (by omega)))
          · rw [decide_eq_false e1, Bool.false_and]
            exact iteF (pl.add hD (Same.refl _) (.bl false) (lt_line (Nat.le_trans outM_len (by omega))))
        · intro H3 pl
          rw [hbl, outM_all, show B.map (fun c => PyData.bool (decide (pr.1 ∈ c) && decide (pr.2 ∈ c))) = (B.map fun c => (decide (pr.1 ∈ c) && decide (pr.2 ∈ c))).map PyData.bool by simp] at pl
          refine ⟨D, _, rfl, pl.bools, _, rfl, ?_⟩
          obtain ⟨c, hc1, hc2, hc3⟩ := D0.edg pr (List.mem_of_getElem? hpr)
          have ea : (B.map fun c => (decide (pr.1 ∈ c) && decide (pr.2 ∈ c))).any id = true := by
            rw [List.any_eq_true]
            exact ⟨true, List.mem_map.mpr ⟨c, hc1, by rw [decide_eq_true hc2, decide_eq_true hc3]; rfl⟩, rfl⟩
          rw [ea]
          refine iteF ?_
          exact ⟨_, _, _, rfl, s2.trans pl.1⟩
      · rintro σ H2 ⟨o3, o4, o5, rfl, s2⟩
        refine ⟨_, rfl, _, _, _, _, rfl, s2 _ _ g1, g2, n, rfl, by omega, by omega, ?_⟩
        refine for_it walk_range (fun i σ H' => ∃ o3 o4 o5 : Option V, σ = [some (.ref gp), some (.ref b), some vp, o3, o4, o5, none] ∧ Same H H') ⟨o3, o4, o5, rfl, s2⟩ (fun i σ H' _ _ => True.intro) ?_ ?_
        · rintro i x σ H3 H3' hi ⟨o3, o4, o5, rfl, s3⟩ ⟨rfl, rfl⟩
          have hi' : i < n := by omega
          refine ⟨_, rfl, _, rfl, _, rfl, _, _, n, es, B, Pa, i, by show [V.ref b, vp, V.int (0 + (i : Int))] = _; rw [Int.zero_add]; rfl, hb.mono (Same.t s3), hp.mono (Same.t s3), D0, hz1, _, _, rfl, rfl, _, rfl, ?_⟩
          have ht := D0.top i hi'
          refine ifF (decide_eq_false (by omega)) ?_
          exact ⟨_, _, _, rfl, s3⟩
        · rintro σ H3 ⟨o3, o4, o5, rfl, s3⟩
          exact q _ s3
end
end SW


set_option maxRecDepth 100000
set_option maxHeartbeats 2000000
/-! bags_of. -/
namespace SW
open PySem PySem.Spec PyProof.Rows L2
def stAt (st : Stmt) (i : Nat) : Stmt := (defBody st).getD i (.Pass ⟨0, 0, 0, 0⟩)
def asgV (st : Stmt) : Expr := match st with
  | .Assign _ e _ => e
  | _ => .Constant .none 0 ⟨0, 0, 0, 0⟩
def lcSc (e : Expr) : Scope := match e with
  | .ListComp _ _ sc _ => sc
  | _ => { kind := .function, names := [], isGenerator := false, isCoroutine := false }
theorem ixN_nat {n j : Nat} {i : Int} (e : i = (j : Int)) (h : j < n) : ixN n i = some j := by
  subst e
  unfold ixN
  rw [if_pos (by omega), if_pos (by omega)]; simp
theorem setAll_snoc (v : Int) : ∀ (a : List Nat) (P : List Int) (x : Nat), SWM.setAll P v (a ++ [x]) = (SWM.setAll P v a).set x v
  | [], P, x => rfl
  | y :: a, P, x => setAll_snoc v a (P.set y v) x
theorem setAll_len (v : Int) : ∀ (a : List Nat) (P : List Int), (SWM.setAll P v a).length = P.length
  | [], P => rfl
  | y :: a, P => by
    show (SWM.setAll (P.set y v) v a).length = _
    rw [setAll_len v a, List.length_set]
theorem parG_snoc (n : Nat) : ∀ (a : List (List Nat)) (tk : List Nat) (i : Nat) (P : List Int), SWM.parG n (a ++ [tk]) i P = SWM.setAll (SWM.parG n a i P) ((n - 1 - (i + a.length) : Nat) : Int) (tk.map fun b => n - 1 - b)
  | [], tk, i, P => rfl
  | t :: a, tk, i, P => by
    show SWM.parG n (a ++ [tk]) (i + 1) _ = SWM.setAll (SWM.parG n a (i + 1) _) _ _
    rw [parG_snoc n a]
    have e : i + 1 + a.length = i + (t :: a).length := by simp; omega
    rw [e]
theorem parG_len (n : Nat) : ∀ (a : List (List Nat)) (i : Nat) (P : List Int), (SWM.parG n a i P).length = P.length
  | [], i, P => rfl
  | t :: a, i, P => by
    show (SWM.parG n a (i + 1) _).length = _
    rw [parG_len n a, setAll_len]
section
variable {P : Program} {w : World} {K : PySem.W.Frag} {mg : Str → Option Value} {base : Heap}
def sp_bags_of : Sp := fun vs H Q _ => ∃ (v : V) (tm : List SWM.Stp) (k : Nat), vs = [v, vN k] ∧ TD H v (dT tm) ∧ TermOk tm k ∧ SWM.sizeT tm ≤ 60 ∧ (∀ b ∈ SWM.bagsT tm, b.length ≤ 1000) ∧ (SWM.bagsT tm).length = tm.length ∧
  ∀ H' t x y, Same H H' → H' t = some (.tup [x, y]) → TD H' x (dB (SWM.bagsT tm)) → TD H' y (dI (SWM.parsT tm)) → Q (.ref t) H'
theorem ok_bags_of (T : Txt K mg w) : FnOk P w K mg base CX0 7 T.f_bags_of T.fd_bags_of ["term", "k"] sp_bags_of := by
  refine T.F_bags_of.ok sc_bags_of (fun vs H Q E h => ?_) (fun cdv A0 outer s H vs Q E hr h => ?_)
  · obtain ⟨v, tm, k, rfl, _⟩ := h
    rfl
  · obtain ⟨v, tm, k, rfl, hv, ok, h60, hbl, hbn, q⟩ := h
    have hu := hu65 hr
    refine ⟨_, PSs.nox (pss_cons (ps_asg (pe_call (ok_built T) (hr.mono (by decide)) rfl T.g_built T.F_built.kp (b_built T) .nil pass0 (pa_cons (pv 0) (pa_cons (pv 1) pa_nil))) (pg_tup (by rfl) (pgs_cons (pg_name (i := 2) sc_bags_of.nd rfl (Or.inr rfl)) (pgs_cons (pg_name (i := 3) sc_bags_of.nd rfl (Or.inl rfl)) (pgs_cons (pg_name (i := 3) sc_bags_of.nd rfl (Or.inl rfl)) pgs_nil)))))
    (pss_cons (ps_set (i := 4) sc_bags_of.nd rfl (Or.inl rfl) (pe_op op_sub (pe_callB cr_len rfl T.z_len boot_len (pa_cons (pv 0) pa_nil)) pe_int))
    (pss_cons (ps_setLc (i := 5) (own := [("tokens", 10)]) (g := gName 10) (te := (tCB rTupOf (tCons (tCB rSortedD (tCons (tLc (iList K (tVar 10)) (gName 11) tYes (tMeth T.C_Building "number" (sp_Building_number T.C_Building) [] E0 (tVar 2) (tCons (tVar 11) tNil)) [11]) tNil)) tNil))) rfl sc_bags_of.nd rfl rfl (sw_true rfl rfl rfl (by decide +kernel)) (pi_reversed rfl T.z_reversed (pa_cons (pe_f (C := T.C_Building) (pv 2) T.cl_Building T.n_Building_shown) pa_nil)) (blkOk_by (N := ["term", "k", "building", "_", "last", "bags", "parents", "index", "taken", "below", "tokens", "token"]) (sc := defScope s_bags_of) (by decide +kernel)) (fun _ _ _ _ _ => pg_name (i := 10) sc_bags_of.nd rfl (Or.inl rfl)) (fun _ _ _ _ _ => pts_nil) (fun _ _ _ _ _ => (pe_callTy cr_tup rfl T.z_tuple boot_tuple (pa_cons (pe_callB (cr_sortedD hu) rfl T.z_sorted boot_sorted (pa_cons (pe_lc (own := [("token", 11)]) (g := gName 11) rfl sc_bags_of.nd (pi_list (pv 10)) (blkOk_by (N := ["term", "k", "building", "_", "last", "bags", "parents", "index", "taken", "below", "tokens", "token"]) (sc := { kind := .function, names := [(".0", .local), ("tokens", .local), ("tuple", .globalImplicit), ("sorted", .globalImplicit), ("building", .cell)], isGenerator := false, isCoroutine := false }) (by decide +kernel)) (fun _ _ _ _ _ => pg_name (i := 11) sc_bags_of.nd rfl (Or.inl rfl)) (fun _ _ _ _ _ => pts_nil) (fun _ _ _ _ _ => (pe_meth (pv 2) T.cl_Building T.m_Building_number (ok_Building_number T) (hr.mono (by decide)) (b_Building_number T) .nil pass0 (pa_cons (pv 11) pa_nil)))) pa_nil)) pa_nil))))
    (pss_cons (ps_set (i := 6) sc_bags_of.nd rfl (Or.inl rfl) (pe_op op_rep (pe_lst (pa_cons (pe_un un_neg pe_int) pa_nil)) (pe_callB cr_len rfl T.z_len boot_len (pa_cons (pv 0) pa_nil))))
    (pss_cons (ps_for PassesOwn.never rfl (pi_enum rfl T.z_enumerate (pa_cons (pe_call (ok_operands T) (hr.mono (by decide)) rfl T.g_operands T.F_operands.kp (b_operands T) .nil pass0 (pa_cons (pv 0) (pa_cons (pv 1) pa_nil))) pa_nil)) (pg_tup rfl (pgs_cons (pg_name (i := 7) sc_bags_of.nd rfl (Or.inl rfl)) (pgs_cons (pg_name (i := 8) sc_bags_of.nd rfl (Or.inl rfl)) pgs_nil)))
    (pss_one (ps_for PassesOwn.never rfl (pi_tup (pv 8)) (pg_name (i := 9) sc_bags_of.nd rfl (Or.inl rfl))
    (pss_one (ps_asg (pe_op op_sub (pv 4) (pv 7)) (pg_sub (pv 6) (pe_op op_sub (pv 4) (pv 9)) set_list))))))
    (pss_one (ps_ret (pe_tup (pa_cons (pe_callTy cr_tup rfl T.z_tuple boot_tuple (pa_cons (pv 5) pa_nil)) (pa_cons (pe_callTy cr_tup rfl T.z_tuple boot_tuple (pa_cons (pv 6) pa_nil)) pa_nil))))))))))
    , ?_⟩
    obtain ⟨f, ht⟩ := ok.term
    have bok := SWM.bldOk_of ht
    have hfew := ok.few
    obtain ⟨a, vt, rfl, ha, hvt⟩ := hv.tupI
    have hvl : vt.length = tm.length := by rw [hvt.length]; simp
    have hne : 0 < tm.length := by
      have := ht.run
      cases tm with
      | nil => simp [SWM.runF] at this
      | cons => simp
    refine ⟨_, rfl, _, rfl, _, tm, k, rfl, hv, ok, h60, fun H1 t p gp x s1 ht1 hbu hgr => ?_⟩
    refine ⟨_, _, rfl, SqT.of ht1, rfl, _, _, rfl, _, _, rfl, _, _, rfl, rfl, ?_⟩
    refine ⟨_, rfl, _, _, rfl, .inr (s1 _ _ ha), _, _, rfl, rfl, ?_⟩
    obtain ⟨hnum, dx, fs, lw, ws, hp1, hsh, hlw, hws⟩ := id hbu
    have hwl : ws.length = (SWM.bld tm).shw.length := hws.length
    have hshl : (SWM.bld tm).shw.length ≤ 20000 := by
      have e : (SWM.bagsT tm).length = (SWM.bld tm).shw.length := by simp [SWM.bagsT]
      omega
    have numOk : ∀ x, x < (SWM.bld tm).tok → SWM.lk (SWM.ordT tm).zipIdx (SWM.res (SWM.bld tm).bec x) = some (SWM.num tm x) := fun x hx => by
      have := lk_zip (n := 0) (bok.res x hx)
      rw [Nat.zero_add] at this; exact this
    refine ⟨_, rfl, _, _, _, _, rfl, hp1, hsh, lw, ws, rfl, SqL.of hlw, fun D hD => lc_td walk_rev hD (outM (SWM.bld tm).shw.reverse (fun ts => dNs (SWM.srtN (ts.map (SWM.num tm))))) outM_0 (fun H h => SqL.of (h _ _ hlw)) ?_ ?_⟩
    · rintro i y H2 H2' hi pl ⟨rfl, hy⟩
      obtain ⟨ts, hts, hnl⟩ := hws.getV hy
      obtain ⟨wa, rfl, _, hwa⟩ := hnl.mv (Same.mv pl.1)
      have hrev : (SWM.bld tm).shw.reverse[i]? = some ts := by
        rw [List.getElem?_reverse (by omega), ← hwl]; exact hts
      have hmem := List.mem_of_getElem? hts
      have hbag : ts.length ≤ 1000 := by
        have := hbl (SWM.srtN (ts.map (SWM.num tm))) (by
          unfold SWM.bagsT
          exact List.mem_map.mpr ⟨ts, List.mem_reverse.mpr hmem, rfl⟩)
        rw [SWM.srtN_len, List.length_map] at this
        exact this
      refine ⟨rfl, _, rfl, _, rfl, ⟨_, SqL.of hwa⟩, fun D2 hD2 => lc_td (walk_list (xs := ts.map vN)) hD2 (outM ts (fun t => dN (SWM.num tm t))) outM_0 (fun H h => SqL.of (h _ _ hwa)) ?_ ?_⟩
      · rintro j z H3 H3' hj pl3 ⟨rfl, hz⟩
        obtain ⟨n, hn, rfl⟩ := map_at hz
        have hn3 := hnum.same (pl.1.trans pl3.1)
        obtain ⟨dx3, fs3, db3, dn3, g1, g2, g3, g4, _⟩ := id hn3
        refine ⟨rfl, _, rfl, p, _, _, rfl, g1, g4, _, rfl, p, _, _, n, _, rfl, hn3, bok.dec, numOk n (bok.shw ts hmem n (List.mem_of_getElem? hn)), ?_⟩
        rw [outM_yes hn]
        exact pl3.add hD2 (Same.refl _) (.int _) (lt_line (Nat.le_trans outM_len (by omega)))
      · intro H3 pl3
        rw [show (ts.map vN).length = ts.length by simp, outM_all, show ts.map (fun t => dN (SWM.num tm t)) = (ts.map (SWM.num tm)).map dN by simp] at pl3
        refine sortedN (ts.map (SWM.num tm)) (.inl pl3.nats) (.ofNats _) fun p4 hp4 => ?_
        have s4 := same_new (o := .lst ((SWM.srtN (ts.map (SWM.num tm))).map vN)) hp4
        refine ⟨_, _, rfl, upd_same, fun p5 hp5 => ?_⟩
        have s5 := same_new (o := .tup ((SWM.srtN (ts.map (SWM.num tm))).map vN)) hp5
        rw [outM_yes hrev]
        exact pl.add hD ((pl3.1.trans s4).trans s5) (TD.ofNats upd_same) (lt_line (Nat.le_trans outM_len (by rw [List.length_reverse]; omega)))
    · intro H2 pl
      rw [hwl, show (SWM.bld tm).shw.length = (SWM.bld tm).shw.reverse.length by simp, outM_all, show (SWM.bld tm).shw.reverse.map (fun ts => dNs (SWM.srtN (ts.map (SWM.num tm)))) = (SWM.bagsT tm).map dNs by simp [SWM.bagsT]] at pl
      have s2 := s1.trans pl.1
      -- parents = [-1] * len(term)
      refine ⟨_, rfl, one_line, fun o1 ho1 => ?_⟩
      have s3 := same_new (o := .lst [.int (-1)]) ho1
      refine ⟨_, rfl, _, _, rfl, .inr (s3 _ _ (s2 _ _ ha)), _, _, _, rfl, rfl, upd_same, by omega, by rw [hvl]; omega, by rw [hvl]; show 1 * _ ≤ _; exact le_line (by omega), fun pr hpr => ?_⟩
      have epar : (List.replicate ((vt.length : Int)).toNat [V.int (-1)]).flatten = (List.replicate tm.length (-1 : Int)).map V.int := by
        rw [hvl, show ((tm.length : Int)).toNat = tm.length by omega, List.map_replicate]
        exact List.flatten_replicate_singleton
      rw [epar]
      have s4 := same_new (o := .lst ((List.replicate tm.length (-1 : Int)).map V.int)) hpr
      have s34 := s3.trans s4
      have s24 := s2.trans s34
      have hpr2 : H2 pr = none := (upd_none hpr).2
      -- for index, taken in enumerate(operands(term, k))
      refine ⟨_, rfl, _, rfl, _, tm, k, rfl, hv.mono (Same.t s24), ok, fun H5 ol s5 hof hol => ?_⟩
      obtain ⟨ov, hol1, hol2⟩ := hol
      have hovl : ov.length = tm.length := by rw [hol2.length, List.length_map, SWM.ops_len]
      have hpr5 : H5 pr = some (.lst ((List.replicate tm.length (-1 : Int)).map V.int)) := s5 _ _ upd_same
      have s25 : Same H2 H5 := s34.trans s5
      have nol : ol ≠ pr := (ne_of_none upd_same hof).symm
      have elast : ((vt.length : Int) - 1) = ((tm.length - 1 : Nat) : Int) := by omega
      refine ⟨ol, _, rfl, SqL.of hol1, for_it (walk_enum (xs := ov)) (fun i σ H' => ∃ o7 o8 o9 : Option V, σ = [some (.ref a), some (vN k), some (.ref p), some x, some (.int ((vt.length : Int) - 1)), some (.ref D), some (.ref pr), o7, o8, o9, none, none] ∧ Mv [pr] H5 H' ∧
          H' pr = some (.lst ((SWM.parG tm.length ((SWM.ops tm [] 0).take i) 0 (List.replicate tm.length (-1))).map V.int)))
        ⟨none, none, none, rfl, Mv.refl _ _, hpr5⟩ (fun i σ H' _ ⟨_, _, _, _, mv, _⟩ => SqL.of (mv.at hol1 nol)) ?_ ?_⟩
      · rintro i y σ H6 H6' hi ⟨o7, o8, o9, rfl, mv, hp6⟩ ⟨T1, x1, x2, rfl, hT, rfl, e1, e2⟩
        obtain ⟨dd, hn, hxd⟩ := hol2.getV e2
        obtain ⟨tk, htk, rfl⟩ := map_at hn
        obtain rfl := (Option.some.inj e1).symm
        have hil : i < tm.length := by rw [← hovl]; exact hi
        obtain ⟨tc, rfl, htc⟩ := (hxd.mono mv.2).natsI
        have s7 := same_new (o := .tup [.int (i : Nat), .ref tc]) hT
        have nTp : T1 ≠ pr := (ne_of_none hp6 hT).symm
        refine ⟨_, _, rfl, SqT.of upd_same, rfl, _, _, rfl, _, _, rfl, rfl, ?_⟩
        have hlt : ∀ z ∈ tk, z < i := fun z hz => by
          have := SWM.ops_lt tm [] 0 (by simp) i tk htk z hz
          omega
        have hpl : ∀ (j : Nat), (SWM.setAll (SWM.parG tm.length ((SWM.ops tm [] 0).take i) 0 (List.replicate tm.length (-1))) ((tm.length - 1 - i : Nat) : Int) ((tk.take j).map fun b => tm.length - 1 - b)).length = tm.length := fun j => by
          rw [setAll_len, parG_len, List.length_replicate]
        refine ⟨_, rfl, tc, rfl, ⟨_, SqT.of (s7 _ _ htc)⟩, for_it (walk_tup (xs := tk.map vN)) (fun j σ H' => ∃ o9 : Option V, σ = [some (.ref a), some (vN k), some (.ref p), some x, some (.int ((vt.length : Int) - 1)), some (.ref D), some (.ref pr), some (vN i), some (.ref tc), o9, none, none] ∧ Mv [pr] H5 H' ∧ H' tc = some (.tup (tk.map vN)) ∧
            H' pr = some (.lst ((SWM.setAll (SWM.parG tm.length ((SWM.ops tm [] 0).take i) 0 (List.replicate tm.length (-1))) ((tm.length - 1 - i : Nat) : Int) ((tk.take j).map fun b => tm.length - 1 - b)).map V.int)))
          ⟨o9, rfl, mv.trans (Same.mv s7), s7 _ _ htc, by rw [upd_ne nTp.symm]; exact hp6⟩ (fun j σ H' _ ⟨_, _, _, h, _⟩ => SqT.of h) ?_ ?_⟩
        · rintro j z σ H8 H8' hj ⟨o9, rfl, mv8, htc8, hp8⟩ ⟨rfl, hz⟩
          obtain ⟨n, hn, rfl⟩ := map_at hz
          have hni := hlt n (List.mem_of_getElem? hn)
          refine ⟨_, rfl, _, rfl, _, _, rfl, rfl, _, rfl, _, rfl, _, rfl, _, _, rfl, rfl, pr, _, _, tm.length - 1 - n, rfl, rfl, hp8, ?_, ?_⟩
          · rw [List.length_map, hpl j]
            exact ixN_nat (by omega) (by omega)
          · refine ⟨_, rfl, mv8.trans (Mv.one hp8 (fun _ z => by cases z)), by rw [upd_ne (ne_of htc8 hp8 (by intro z; cases z))]; exact htc8, ?_⟩
            rw [upd_same]
            have e4 : tk.take (j + 1) = tk.take j ++ [n] := by rw [List.take_add_one, hn]; rfl
            rw [e4, List.map_append, List.map_cons, List.map_nil, setAll_snoc, List.map_set]
            have e5 : V.int ((vt.length : Int) - 1 - (i : Int)) = V.int ((tm.length - 1 - i : Nat) : Int) := by congr 1; omega
            show some (HO.lst (List.set _ _ (V.int ((vt.length : Int) - 1 - (i : Int))))) = _
            rw [e5]
        · rintro σ H8 ⟨o9, rfl, mv8, htc8, hp8⟩
          rw [show (tk.map vN).length = tk.length by simp, List.take_length] at hp8
          refine ⟨_, _, _, rfl, mv8, ?_⟩
          have e4 : (SWM.ops tm [] 0).take (i + 1) = (SWM.ops tm [] 0).take i ++ [tk] := by rw [List.take_add_one, htk]; rfl
          rw [e4, parG_snoc, List.length_take, SWM.ops_len, Nat.min_eq_left (by omega), Nat.zero_add]
          exact hp8
      · rintro σ H6 ⟨o7, o8, o9, rfl, mv, hp6⟩
        have e5 : ov.length = (SWM.ops tm [] 0).length := by rw [hovl, SWM.ops_len]
        rw [e5, List.take_length] at hp6
        have s26 : Same H2 H6 := mv.same s25 fun b hb => by rw [List.mem_singleton.mp hb]; exact hpr2
        obtain ⟨bv, hb1, hb2⟩ := LD.same pl.2 s26
        refine ⟨_, rfl, _, _, rfl, hb1, fun p1 hp1' => ?_⟩
        have s7 := same_new (o := .tup bv) hp1'
        refine ⟨_, rfl, _, _, rfl, s7 _ _ hp6, fun p2 hp2' => ?_⟩
        have s8 := same_new (o := .tup ((SWM.parG tm.length (SWM.ops tm [] 0) 0 (List.replicate tm.length (-1))).map V.int)) hp2'
        refine ⟨two_line, fun p3 hp3' => ?_⟩
        have s9 := same_new (o := .tup [.ref p1, .ref p2]) hp3'
        refine q _ p3 _ _ (s2.trans (s26.trans ((s7.trans s8).trans s9))) upd_same (.tup (s9 _ _ (s8 _ _ upd_same)) (hb2.mono (Same.t ((s7.trans s8).trans s9)))) (.tup (s9 _ _ upd_same) (TDs.ofInts _))
end
end SW


set_option maxRecDepth 100000
set_option maxHeartbeats 2000000
/-! _labels. -/
namespace SW
open PySem PySem.Spec PyProof.Rows L2
theorem asg1_keys {above : List Nat} : ∀ (l : List Nat) (st : List (Nat × Nat) × List Nat) (x : Nat), x ∈ (l.foldl (SWM.asg1 above) st).1.map (·.1) ↔ x ∈ st.1.map (·.1) ∨ (x ∈ l ∧ ¬ x ∈ above)
  | [], st, x => by simp
  | v :: l, st, x => by
    rw [List.foldl_cons, asg1_keys l]
    unfold SWM.asg1
    by_cases h : v ∈ above
    · rw [if_pos h]
      constructor
      · rintro (z | ⟨z1, z2⟩)
        · exact .inl z
        · exact .inr ⟨List.mem_cons_of_mem _ z1, z2⟩
      · rintro (z | ⟨z1, z2⟩)
        · exact .inl z
        · rcases List.mem_cons.mp z1 with e | e
          · rw [e] at z2; exact absurd h z2
          · exact .inr ⟨e, z2⟩
    · rw [if_neg h]
      show x ∈ (SWM.put st.1 v _).map (·.1) ∨ _ ↔ _
      rw [SWM.mem_put]
      constructor
      · rintro ((z | z) | ⟨z1, z2⟩)
        · exact .inl z
        · exact .inr ⟨by rw [z]; simp, by rw [z]; exact h⟩
        · exact .inr ⟨List.mem_cons_of_mem _ z1, z2⟩
      · rintro (z | ⟨z1, z2⟩)
        · exact .inl (.inl z)
        · rcases List.mem_cons.mp z1 with e | e
          · exact .inl (.inr e)
          · exact .inr ⟨e, z2⟩
theorem asg1_nd {above : List Nat} : ∀ (l : List Nat) (st : List (Nat × Nat) × List Nat), (st.1.map (·.1)).Nodup → ((l.foldl (SWM.asg1 above) st).1.map (·.1)).Nodup
  | [], st, h => h
  | v :: l, st, h => by
    rw [List.foldl_cons]
    refine asg1_nd l _ ?_
    unfold SWM.asg1
    split
    · exact h
    · exact SWM.put_nd h _ _
theorem asg1_len {above : List Nat} : ∀ (l : List Nat) (st : List (Nat × Nat) × List Nat), (l.foldl (SWM.asg1 above) st).2.length ≤ st.2.length + l.length
  | [], st => Nat.le_refl _
  | v :: l, st => by
    rw [List.foldl_cons]
    have h := asg1_len (above := above) l (SWM.asg1 above st v)
    have h2 : (SWM.asg1 above st v).2.length ≤ st.2.length + 1 := by
      unfold SWM.asg1
      split
      · omega
      · simp
    simp only [List.length_cons]; omega
theorem labsTo_succ (B : List (List Nat)) (Pa : List Int) (i : Nat) : SWM.labsTo B Pa (i + 1) = SWM.asg (SWM.labsTo B Pa i) (SWM.bagAt B i) (SWM.aboveOf B Pa i) := by
  unfold SWM.labsTo
  rw [List.range_succ, List.foldl_append]; rfl
theorem labsTo_nd (B : List (List Nat)) (Pa : List Int) : ∀ i, ((SWM.labsTo B Pa i).map (·.1)).Nodup
  | 0 => by simp [SWM.labsTo]
  | i + 1 => by
    rw [labsTo_succ]
    exact asg1_nd _ _ (labsTo_nd B Pa i)
theorem bagAt_mem {B : List (List Nat)} {i : Nat} (h : i < B.length) : SWM.bagAt B i ∈ B := by
  unfold SWM.bagAt
  rw [List.getD_eq_getElem?_getD, List.getElem?_eq_getElem h]
  exact List.getElem_mem h
theorem bagAt_get {B : List (List Nat)} {i : Nat} (h : i < B.length) : B[i]? = some (SWM.bagAt B i) := by
  unfold SWM.bagAt
  rw [List.getD_eq_getElem?_getD, List.getElem?_eq_getElem h]; rfl
/-- what is labelled behind i bags -/
theorem labsTo_keys {n : Nat} {es : List (Nat × Nat)} {B : List (List Nat)} {Pa : List Int} (D : SWM.Dec n es B Pa) : ∀ i, i ≤ B.length → ∀ x, x ∈ (SWM.labsTo B Pa i).map (·.1) ↔ ∃ j, j < i ∧ x ∈ SWM.bagAt B j
  | 0, _, x => by simp [SWM.labsTo]
  | i + 1, h, x => by
    have ih := labsTo_keys D i (by omega)
    rw [labsTo_succ]
    unfold SWM.asg
    rw [asg1_keys, ih x]
    constructor
    · rintro (⟨j, h1, h2⟩ | ⟨h1, _⟩)
      · exact ⟨j, by omega, h2⟩
      · exact ⟨i, by omega, h1⟩
    · rintro ⟨j, h1, h2⟩
      by_cases e : j < i
      · exact .inl ⟨j, e, h2⟩
      · have ej : j = i := by omega
        subst ej
        by_cases ha : x ∈ SWM.aboveOf B Pa j
        · unfold SWM.aboveOf at ha
          split at ha
          · cases ha
          · obtain ⟨p, hp1, hp2⟩ := D.par j (by omega) (by omega)
            have e2 : SWM.parOf Pa j = p := by
              unfold SWM.parOf
              rw [List.getD_eq_getElem?_getD, hp1]; simp
            rw [e2] at ha
            exact .inl ⟨p, hp2, ha⟩
        · exact .inr ⟨h2, ha⟩
theorem nodup_lt {l : List Nat} {n : Nat} (nd : l.Nodup) (h : ∀ x ∈ l, x < n) : l.length ≤ n := by
  have hs : l ⊆ List.range n := fun x hx => List.mem_range.mpr (h x hx)
  have := nd.length_le_of_subset hs
  rw [List.length_range] at this
  exact this
section
variable {P : Program} {w : World} {K : PySem.W.Frag} {mg : Str → Option Value} {base : Heap}
def sp__labels : Sp := fun vs H Q _ => ∃ (vb vp : V) (n : Nat) (es : List (Nat × Nat)) (B : List (List Nat)) (Pa : List Int), vs = [vb, vp] ∧ TD H vb (dB B) ∧ TD H vp (dI Pa) ∧ SWM.Dec n es B Pa ∧ B.length ≤ 100000 ∧ n ≤ 1000 ∧
  ∀ H' d, Same H H' → H d = none → H' d = some (.dK (kN (SWM.labs B Pa))) → Q (.ref d) H'
theorem ok__labels (T : Txt K mg w) : FnOk P w K mg base CX0 1 T.f__labels T.fd__labels ["bags", "parents"] sp__labels := by
  refine T.F__labels.ok sc__labels (fun vs H Q E h => ?_) (fun cdv A0 outer s H vs Q E hr h => ?_)
  · obtain ⟨vb, vp, n, es, B, Pa, rfl, _⟩ := h
    rfl
  · obtain ⟨vb, vp, n, es, B, Pa, rfl, hb, hp, D0, hz, hn, q⟩ := h
    have hu := hu65 hr
    have hu1 := hu_of hr
    refine ⟨_, PSs.nox (pss_cons (ps_set (i := 2) sc__labels.nd rfl (Or.inr rfl) pe_dnewK)
    (pss_cons (ps_for PassesOwn.never rfl (pi_enumT rfl T.z_enumerate (pa_cons (pv 0) pa_nil)) (pg_tup rfl (pgs_cons (pg_name (i := 3) sc__labels.nd rfl (Or.inl rfl)) (pgs_cons (pg_name (i := 4) sc__labels.nd rfl (Or.inl rfl)) pgs_nil)))
    (pss_cut (ps_set (i := 5) sc__labels.nd rfl (Or.inr rfl) (pe_ifExp (pt_cmpR op_gt (pv 3) pe_int (by first | exact nomark _ | with_unfolding_all rfl)) (pe_ix op_ix (pv 0) (pe_ix op_ix (pv 1) (pv 3) (fun _ _ => rfl)) (fun _ _ => rfl)) (pe_tup pa_nil)))
    (pss_cons (ps_setLc (i := 6) (own := [("vertex", 7)]) (g := gName 7) rfl sc__labels.nd rfl rfl (sw_true rfl rfl rfl (by decide +kernel)) (pi_tup (pv 4)) (blkOk_by (N := ["bags", "parents", "labels", "at", "bag", "above", "used", "vertex", "label"]) (sc := defScope s__labels) (by decide +kernel)) (fun _ _ _ _ _ => pg_name (i := 7) sc__labels.nd rfl (Or.inl rfl)) (fun _ _ _ _ _ => pts_one (pt_cmpR (op_inT (Nat.lt_of_succ_lt hu)) (pv 7) (pv 5) (by first | exact nomark _ | with_unfolding_all rfl))) (fun _ _ _ _ _ => (pe_dget hu1 (pv 2) (pv 7) (fun _ _ => rfl))))
    (pss_one (ps_for PassesOwn.never rfl (pi_tup (pv 4)) (pg_name (i := 7) sc__labels.nd rfl (Or.inl rfl))
    (pss_one (ps_if (pt_cmpR (op_notInT (Nat.lt_of_succ_lt hu)) (pv 7) (pv 5) (by first | exact nomark _ | with_unfolding_all rfl))
    (pss_cons (ps_set (i := 8) sc__labels.nd rfl (Or.inl rfl) pe_int)
    (pss_cons (ps_while PassesOwn.never (pt_cmpR (op_inL (Nat.lt_of_succ_lt hu)) (pv 8) (pv 6) (by first | exact nomark _ | with_unfolding_all rfl))
    (pss_one (ps_aug (i := 8) sc__labels.nd rfl (Or.inl rfl) pe_int ip_add)))
    (pss_cons (ps_dput hu1 (pv 2) (pv 7) (pv 8) rfl)
    (pss_one (ps_expr (pe_bm PySem.F.plainAttrs_list PySem.F.slot_list_append PySem.F.type_list_append mt_append (pv 6) (pa_cons (pv 8) pa_nil)))))))
    pss_nil)))))))
    (pss_one (ps_ret (pv 2)))))
    , ?_⟩
    obtain ⟨b, bs, rfl, hb1, hb2⟩ := hb.tupI
    obtain ⟨p, ps, rfl, hp1, hp2⟩ := hp.tupI
    have hbl : bs.length = B.length := by rw [hb2.length]; simp
    have hpl : ps = Pa.map V.int := hp2.ints
    have hkl : ∀ i, i ≤ B.length → (SWM.labsTo B Pa i).length ≤ n := fun i hi => by
      have := nodup_lt (labsTo_nd B Pa i) (n := n) fun x hx => by
        obtain ⟨j, h1, h2⟩ := (labsTo_keys D0 i hi x).mp hx
        exact D0.mem _ (bagAt_mem (by omega)) x h2
      rw [List.length_map] at this
      exact this
    intro d hd
    have s0 := same_new (o := .dK []) hd
    refine ⟨_, rfl, b, _, rfl, SqT.of (s0 _ _ hb1), for_it (walk_enumT (xs := bs)) (fun i σ H' => ∃ o3 o4 o5 o6 o7 o8 : Option V, σ = [some (.ref b), some (.ref p), some (.ref d), o3, o4, o5, o6, o7, o8] ∧ Same H H' ∧ H' d = some (.dK (kN (SWM.labsTo B Pa i))))
      ⟨none, none, none, none, none, none, rfl, s0, upd_same⟩ (fun i σ H' _ ⟨_, _, _, _, _, _, _, s1, _⟩ => SqT.of (s1 _ _ hb1)) ?_ ?_⟩
    · rintro i x σ H1 H1' hi ⟨o3, o4, o5, o6, o7, o8, rfl, s1, hd1⟩ ⟨T1, x1, x2, rfl, hT, rfl, e1, e2⟩
      obtain ⟨dd, hn1, hxd⟩ := hb2.getV e2
      obtain ⟨bag, hbag, rfl⟩ := map_at hn1
      obtain rfl := (Option.some.inj e1).symm
      have hil : i < B.length := by rw [← hbl]; exact hi
      have ebag : bag = SWM.bagAt B i := Option.some.inj (hbag.symm.trans (bagAt_get hil))
      have hmem := List.mem_of_getElem? hbag
      have hbn : bag.length ≤ n := dec_len (D0.mem bag hmem) (D0.asc bag hmem)
      have s2 := same_new (o := .tup [.int (i : Nat), x2]) hT
      have s12 := s1.trans s2
      obtain ⟨c, rfl, hc0⟩ := hxd.natsI
      have hc := s12 _ _ hc0
      have hd2 := s2 _ _ hd1
      refine ⟨_, _, rfl, SqT.of upd_same, rfl, _, _, rfl, _, _, rfl, rfl, ?_⟩
      refine ⟨fun σ H2 => ∃ va : V, σ = [some (.ref b), some (.ref p), some (.ref d), some (vN i), some (.ref c), some va, o6, o7, o8] ∧ Same H1 H2 ∧ TD H2 va (dNs (SWM.aboveOf B Pa i)), ?_, ?_⟩
      · refine ⟨_, rfl, _, _, rfl, rfl, _, rfl, ?_⟩
        by_cases e0 : i = 0
        · refine ifF (decide_eq_false (by omega)) ?_
          refine ⟨Nat.zero_le _, fun t ht => ⟨_, rfl, s2.trans (same_new ht), ?_⟩⟩
          have ea : SWM.aboveOf B Pa i = [] := by unfold SWM.aboveOf; rw [if_pos e0]
          rw [ea]
          exact .tup upd_same .nil
        · refine ifT (decide_eq_true (by omega)) ?_
          obtain ⟨j, hj1, hj2⟩ := D0.par i (by omega) hil
          have hpj : ps[i]? = some (.int (j : Int)) := by rw [hpl, List.getElem?_map, hj1]; rfl
          have hpo : SWM.parOf Pa i = j := by
            unfold SWM.parOf
            rw [List.getD_eq_getElem?_getD, hj1]; simp
          obtain ⟨bw, hbw1, hbw2⟩ := hb2.get (i := j) (d := dNs (SWM.bagAt B j)) (by rw [List.getElem?_map, bagAt_get (by omega : j < B.length)]; rfl)
          refine ⟨_, rfl, _, rfl, _, rfl, _, _, _, V.int (j : Int), rfl, rfl, .inr (s12 _ _ hp1), atN (j := i) rfl hpj, _, _, _, bw, rfl, rfl, .inr (s12 _ _ hb1), atI_nat hbw1, _, rfl, s2, ?_⟩
          have ea : SWM.aboveOf B Pa i = SWM.bagAt B j := by unfold SWM.aboveOf; rw [if_neg e0, hpo]
          rw [ea]
          exact hbw2.mono (Same.t s12)
      · rintro σ H2 ⟨va, rfl, s3, hva⟩
        have s13 := s1.trans s3
        have hc3 := s13 _ _ hc0
        have hd3 := s3 _ _ hd1
        have hkey : ∀ x ∈ SWM.aboveOf B Pa i, x ∈ (SWM.labsTo B Pa i).map (·.1) := fun x hx => by
          rw [labsTo_keys D0 i (by omega)]
          unfold SWM.aboveOf at hx
          split at hx
          · cases hx
          · obtain ⟨p, hp1, hp2⟩ := D0.par i (by omega) hil
            have e2 : SWM.parOf Pa i = p := by
              unfold SWM.parOf
              rw [List.getD_eq_getElem?_getD, hp1]; simp
            rw [e2] at hx
            exact ⟨p, hp2, hx⟩
        -- used
        refine ⟨_, rfl, c, rfl, ⟨_, SqT.of hc3⟩, fun D hD => lc_td (walk_tup (xs := bag.map vN)) hD (outF bag (fun v => decide (v ∈ SWM.aboveOf B Pa i)) (fun v => dN (SWM.lkD (SWM.labsTo B Pa i) v))) outF_0 (fun H h => SqT.of (h _ _ hc3)) ?_ ?_⟩
        · rintro j y H3 H3' hj pl ⟨rfl, hy⟩
          obtain ⟨v, hv, rfl⟩ := map_at hy
          refine ⟨rfl, _, rfl, _, rfl, dN v, (SWM.aboveOf B Pa i).map dN, .int _, hva.mono (Same.t pl.1), Nice.of (ni_N v) (by decide), ⟨(niceAll_map ni_N _).lay, Nat.le_trans (niceAll_map ni_N _).dep (by decide)⟩, _, rfl, ?_⟩
          rw [any_map eqv_N]
          by_cases e : v ∈ SWM.aboveOf B Pa i
          · rw [decide_eq_true e]
            refine ⟨_, rfl, _, rfl, d, _, rfl, dget (.inl (pl.1 _ _ hd3)) (hkey v e), ?_⟩
            rw [outF_yes hv (decide_eq_true e)]
            exact pl.add hD (Same.refl _) (.int _) (lt_line (Nat.le_trans outF_len (by omega)))
          · rw [decide_eq_false e]
            show PL _ _ _ _
            rw [outF_no hv (decide_eq_false e)]
            exact pl
        · intro H3 pl
          rw [show (bag.map vN).length = bag.length by simp, outF_all, show (bag.filter fun v => decide (v ∈ SWM.aboveOf B Pa i)).map (fun v => dN (SWM.lkD (SWM.labsTo B Pa i) v)) = (SWM.used0 (SWM.labsTo B Pa i) bag (SWM.aboveOf B Pa i)).map dN by simp [SWM.used0]] at pl
          have s4 := pl.1
          have hDn := pl.nats
          have s14 := s13.trans s4
          have hD0 : H D = none := s13.free hD
          have nDd : D ≠ d := (ne_of_none hd3 hD).symm
          have hu0 : (SWM.used0 (SWM.labsTo B Pa i) bag (SWM.aboveOf B Pa i)).length ≤ bag.length := by
            unfold SWM.used0
            rw [List.length_map]; exact List.length_filter_le _ _
          refine ⟨_, rfl, c, rfl, ⟨_, SqT.of (s14 _ _ hc0)⟩, for_it (walk_tup (xs := bag.map vN)) (fun j σ H' => ∃ o7 o8 : Option V, σ = [some (.ref b), some (.ref p), some (.ref d), some (vN i), some (.ref c), some va, some (.ref D), o7, o8] ∧ Same H H' ∧ SameT H2 H' ∧
              H' d = some (.dK (kN ((bag.take j).foldl (SWM.asg1 (SWM.aboveOf B Pa i)) (SWM.labsTo B Pa i, SWM.used0 (SWM.labsTo B Pa i) bag (SWM.aboveOf B Pa i))).1)) ∧
              H' D = some (.lst (((bag.take j).foldl (SWM.asg1 (SWM.aboveOf B Pa i)) (SWM.labsTo B Pa i, SWM.used0 (SWM.labsTo B Pa i) bag (SWM.aboveOf B Pa i))).2.map vN)))
            ⟨o7, o8, rfl, s14, Same.t s4, s4 _ _ hd3, hDn⟩ (fun j σ H' _ ⟨_, _, _, ss, _⟩ => SqT.of (ss _ _ hc0)) ?_ ?_⟩
          · rintro j y σ H4 H4' hj ⟨o7, o8, rfl, ss, st, hd4, hD4⟩ ⟨rfl, hy⟩
            obtain ⟨v, hv, rfl⟩ := map_at hy
            have hjl : j < bag.length := by rw [List.length_map] at hj; exact hj
            have hl1 := asg1_len (above := SWM.aboveOf B Pa i) (bag.take j) (SWM.labsTo B Pa i, SWM.used0 (SWM.labsTo B Pa i) bag (SWM.aboveOf B Pa i))
            have hnd1 := asg1_nd (above := SWM.aboveOf B Pa i) (bag.take j) (SWM.labsTo B Pa i, SWM.used0 (SWM.labsTo B Pa i) bag (SWM.aboveOf B Pa i)) (labsTo_nd B Pa i)
            have hkk := asg1_keys (above := SWM.aboveOf B Pa i) (bag.take j) (SWM.labsTo B Pa i, SWM.used0 (SWM.labsTo B Pa i) bag (SWM.aboveOf B Pa i))
            have e4 : bag.take (j + 1) = bag.take j ++ [v] := by rw [List.take_add_one, hv]; rfl
            rw [e4, List.foldl_append]
            generalize (bag.take j).foldl (SWM.asg1 (SWM.aboveOf B Pa i)) (SWM.labsTo B Pa i, SWM.used0 (SWM.labsTo B Pa i) bag (SWM.aboveOf B Pa i)) = st1 at hd4 hD4 hl1 hnd1 hkk
            have htj : (bag.take j).length ≤ j := List.length_take_le _ _
            have hm1 : st1.1.length ≤ n := by
              have := nodup_lt hnd1 (n := n) fun x hx => by
                rcases (hkk x).mp hx with z | ⟨z, _⟩
                · obtain ⟨j2, h1, h2⟩ := (labsTo_keys D0 i (by omega) x).mp z
                  exact D0.mem _ (bagAt_mem (by omega)) x h2
                · exact D0.mem bag hmem x (List.mem_of_mem_take z)
              rw [List.length_map] at this
              exact this
            refine ⟨_, rfl, _, rfl, dN v, (SWM.aboveOf B Pa i).map dN, .int _, hva.mono st, Nice.of (ni_N v) (by decide), ⟨(niceAll_map ni_N _).lay, Nat.le_trans (niceAll_map ni_N _).dep (by decide)⟩, _, rfl, ?_⟩
            rw [any_map eqv_N]
            by_cases e : v ∈ SWM.aboveOf B Pa i
            · rw [decide_eq_true e]
              refine iteF ⟨some (vN v), o8, rfl, ss, st, ?_⟩
              have ea : [v].foldl (SWM.asg1 (SWM.aboveOf B Pa i)) st1 = st1 := by
                show SWM.asg1 _ st1 v = st1
                unfold SWM.asg1
                rw [if_pos e]
              rw [ea]
              exact ⟨hd4, hD4⟩
            · rw [decide_eq_false e]
              refine iteT ?_
              have ea : [v].foldl (SWM.asg1 (SWM.aboveOf B Pa i)) st1 = (SWM.put st1.1 v (SWM.least st1.2), st1.2 ++ [SWM.least st1.2]) := by
                show SWM.asg1 _ st1 v = _
                unfold SWM.asg1
                rw [if_neg e]
              rw [ea]
              -- label = 0; while label in used: label += 1
              refine ⟨fun m1 σ H' => ∃ l : Nat, m1 = st1.2.length + 1 - l ∧ σ = [some (.ref b), some (.ref p), some (.ref d), some (vN i), some (.ref c), some va, some (.ref D), some (vN v), some (vN l)] ∧ H' = H4' ∧ ∀ j2, j2 < l → j2 ∈ st1.2, ⟨_, 0, rfl, rfl, rfl, fun _ h => absurd h (by omega)⟩, ?_⟩
              rintro m1 σ H5 ⟨l, rfl, rfl, rfl, hl⟩
              refine ⟨_, rfl, _, rfl, dN l, st1.2.map dN, D, .int _, rfl, LD.ofNats hD4, Nice.of (ni_N l) (by decide), ⟨(niceAll_map ni_N _).lay, Nat.le_trans (niceAll_map ni_N _).dep (by decide)⟩, _, rfl, ?_⟩
              rw [any_map eqv_N]
              by_cases e5 : l ∈ st1.2
              · rw [decide_eq_true e5]
                refine iteT ?_
                have hl2 : ∀ j2, j2 < l + 1 → j2 ∈ st1.2 := fun j2 h => by
                  by_cases z : j2 = l
                  · rw [z]; exact e5
                  · exact hl j2 (by omega)
                have hle : l + 1 ≤ st1.2.length := by
                  have hs : List.range (l + 1) ⊆ st1.2 := fun x hx => hl2 x (List.mem_range.mp hx)
                  have := List.nodup_range.length_le_of_subset hs
                  rw [List.length_range] at this
                  exact this
                refine ⟨fun σ' H'' => σ' = [some (.ref b), some (.ref p), some (.ref d), some (vN i), some (.ref c), some va, some (.ref D), some (vN v), some (vN (l + 1))] ∧ H'' = H5, ?_, ?_⟩
                · rintro σ' H'' ⟨rfl, rfl⟩
                  exact ⟨st1.2.length + 1 - (l + 1), by omega, l + 1, rfl, rfl, rfl, hl2⟩
                · exact ⟨_, rfl, _, _, rfl, rfl, by simp [vN], rfl⟩
              · rw [decide_eq_false e5]
                refine iteF ?_
                have hle : l = SWM.least st1.2 := SWM.least_uniq e5 hl
                rw [← hle]
                refine ⟨_, rfl, _, rfl, _, rfl, d, _, rfl, DPut.k (k := kI v) hd4 (lt_line (by rw [kN_len]; omega)), ?_⟩
                refine ⟨_, rfl, .inl ⟨rfl, _, SqL.of (by rw [upd_ne nDd]; exact hD4)⟩, _, rfl, D, _, _, rfl, rfl, by rw [upd_ne nDd]; exact hD4, lt_line (by rw [List.length_map]; simp only at hl1; omega), ?_⟩
                refine ⟨some (vN v), some (vN l), rfl, Same.put (Same.put ss hd) hD0, ?_, ?_, ?_⟩
                · exact st.trans ((SameT.put hd4 (fun _ z => by cases z)).trans (SameT.put (by rw [upd_ne nDd]; exact hD4) (fun _ z => by cases z)))
                · rw [upd_ne nDd.symm, upd_same]
                  have := putK_kN hnd1 v l
                  rw [this]
                · rw [upd_same]; simp [vN]
          · rintro σ H4 ⟨o7, o8, rfl, ss, st, hd4, hD4⟩
            rw [show (bag.map vN).length = bag.length by simp, List.take_length] at hd4
            refine ⟨_, _, _, _, _, _, rfl, ss, ?_⟩
            rw [labsTo_succ, ← ebag]
            exact hd4
    · rintro σ H1 ⟨o3, o4, o5, o6, o7, o8, rfl, s1, hd1⟩
      rw [hbl] at hd1
      exact ⟨_, rfl, q _ d s1 hd hd1⟩
end
end SW


set_option maxRecDepth 100000
set_option maxHeartbeats 2000000
/-! _law_cell, _law_mixed, _law_digits. -/
namespace SW
open PySem PySem.Spec PyProof.Rows L2
def mixA (c : Int) (k : Nat) : Int := (c * 48271 + k * 69621 + 11).fmod 2147483647
def mixD (c : Int) (k : Nat) : Int := (mixA c k * 16807 + ((k : Int) + 3) * 40692 + 5).fmod 2147483563 |>.fdiv 5
def cellAt (c : Int) : Nat → Int
  | 0 => c
  | k + 1 => (cellAt c k).fdiv 720
def dig1 (c : Int) (k : Nat) : Nat := ((mixD c k).fmod 720).toNat
def dig2 (c : Int) (k : Nat) : Nat := ((cellAt c k).fmod 720).toNat
def digs (c : Int) : List Nat := if c < 10 ^ 18 then (List.range 30).map (dig1 c) else (List.range 30).map (dig2 c)
theorem dig1_eq (c : Int) (k : Nat) : (mixD c k).fmod 720 = (dig1 c k : Int) := by
  have := Int.fmod_nonneg_of_pos (mixD c k) (b := 720) (by decide)
  unfold dig1; omega
theorem dig2_eq (c : Int) (k : Nat) : (cellAt c k).fmod 720 = (dig2 c k : Int) := by
  have := Int.fmod_nonneg_of_pos (cellAt c k) (b := 720) (by decide)
  unfold dig2; omega
section
variable {P : Program} {w : World} {K : PySem.W.Frag} {mg : Str → Option Value} {base : Heap}
def sp__law_cell (K : PySem.W.Frag) : Sp := fun vs H Q _ => ∃ (a : Addr) (ns : List Int) (k : Nat), vs = [.ref a, vN k] ∧ SqL K H a (ns.map V.int) ∧ Q (.int (ns.getD k 0)) H
theorem ok__law_cell (T : Txt K mg w) : FnOk P w K mg base CX0 1 T.f__law_cell T.fd__law_cell ["_law_script", "_law_k"] (sp__law_cell K) := by
  refine T.F__law_cell.ok sc__law_cell (fun vs H Q E h => ?_) (fun cdv A0 outer s H vs Q E hr h => ?_)
  · obtain ⟨a, ns, k, rfl, _⟩ := h
    rfl
  · obtain ⟨a, ns, k, rfl, ha, q⟩ := h
    refine ⟨_, PSs.nox (pss_cons (ps_if (pt_cmpR op_lt (pv 1) (pe_callB call_len_seq rfl T.z_len boot_len (pa_cons (pv 0) pa_nil)) (by first | exact nomark _ | with_unfolding_all rfl))
    (pss_one (ps_ret (pe_ix ix_list (pv 0) (pv 1) (fun _ _ => rfl))))
    pss_nil)
    (pss_one (ps_ret pe_int)))
    , ?_⟩
    refine ⟨_, rfl, _, rfl, _, _, rfl, .inl ha, _, _, rfl, rfl, _, rfl, ?_⟩
    by_cases h : k < ns.length
    · refine ifT (decide_eq_true (by rw [List.length_map]; omega)) ?_
      have e : ns.getD k 0 = ns[k] := by rw [List.getD_eq_getElem?_getD, List.getElem?_eq_getElem h]; rfl
      rw [e] at q
      exact ⟨_, rfl, _, rfl, _, _, _, _, rfl, rfl, ha, atI_nat (by rw [List.getElem?_map, List.getElem?_eq_getElem h]; rfl), q⟩
    · refine ifF (decide_eq_false (by rw [List.length_map]; omega)) ?_
      have e : ns.getD k 0 = 0 := by rw [List.getD_eq_getElem?_getD, List.getElem?_eq_none (by omega)]; rfl
      rw [e] at q
      exact q
def sp__law_mixed : Sp := fun vs H Q _ => ∃ (c : Int) (k : Nat), vs = [.int c, vN k] ∧ k ≤ 1000 ∧ Q (.int (mixD c k)) H
theorem ok__law_mixed (T : Txt K mg w) : FnOk P w K mg base CX0 1 T.f__law_mixed T.fd__law_mixed ["_law_cell_here", "_law_k"] sp__law_mixed := by
  refine T.F__law_mixed.ok sc__law_mixed (fun vs H Q E h => ?_) (fun cdv A0 outer s H vs Q E hr h => ?_)
  · obtain ⟨c, k, rfl, _⟩ := h
    rfl
  · obtain ⟨c, k, rfl, hk, q⟩ := h
    refine ⟨_, PSs.nox (pss_cons (ps_set (i := 2) sc__law_mixed.nd rfl (Or.inl rfl) (pe_op op_modN (pe_callTy call_int1 rfl T.z_int boot_int (pa_cons (pe_op op_add (pe_op op_add (pe_op op_mul (pe_callTy call_int1 rfl T.z_int boot_int (pa_cons (pv 0) pa_nil)) pe_int) (pe_op op_mul (pv 1) pe_int)) pe_int) pa_nil)) pe_int))
    (pss_cons (ps_set (i := 3) sc__law_mixed.nd rfl (Or.inl rfl) (pe_op op_modN (pe_callTy call_int1 rfl T.z_int boot_int (pa_cons (pe_op op_add (pe_op op_add (pe_op op_mul (pv 2) pe_int) (pe_op op_mul (pe_op op_add (pv 1) pe_int) pe_int)) pe_int) pa_nil)) pe_int))
    (pss_one (ps_ret (pe_op op_fdivN (pv 3) pe_int)))))
    , ?_⟩
    refine ⟨_, rfl, .inl ⟨_, rfl, _, _, rfl, rfl, .inr ⟨by decide, by decide⟩, _, rfl, _, _, rfl, rfl, .inr ⟨by decide, by decide⟩, _, _, rfl, rfl, _, _, rfl, rfl, .inl ⟨_, rfl, _, _, rfl, rfl, (show (2147483647 : Int) ≠ 0 by decide), ?_⟩⟩⟩
    refine ⟨_, rfl, _, _, rfl, rfl, .inr ⟨by decide, by decide⟩, _, rfl, _, _, rfl, rfl, _, _, rfl, rfl, .inr ⟨by decide, by decide⟩, _, _, rfl, rfl, _, _, rfl, rfl, .inl ⟨_, rfl, _, _, rfl, rfl, (show (2147483563 : Int) ≠ 0 by decide), ?_⟩⟩
    exact ⟨_, rfl, _, _, rfl, rfl, ⟨by decide, by decide⟩, q⟩
def sp__law_digits : Sp := fun vs H Q _ => ∃ (c : Int), vs = [.int c, .int 30, .int 720] ∧ ∀ H' p, Same H H' → H' p = some (.lst ((digs c).map vN)) → Q (.ref p) H'
theorem ok__law_digits (T : Txt K mg w) : FnOk P w K mg base CX0 2 T.f__law_digits T.fd__law_digits ["_law_cell_here", "_law_count", "_law_many"] sp__law_digits := by
  refine T.F__law_digits.ok sc__law_digits (fun vs H Q E h => ?_) (fun cdv A0 outer s H vs Q E hr h => ?_)
  · obtain ⟨c, rfl, _⟩ := h
    rfl
  · obtain ⟨c, rfl, q⟩ := h
    refine ⟨_, PSs.nox (pss_cons (ps_set (i := 3) sc__law_digits.nd rfl (Or.inl rfl) (pe_lst pa_nil))
    (pss_cons (ps_if (pt_cmpR op_lt (pv 0) (pe_op op_pow pe_int pe_int) (by first | exact nomark _ | with_unfolding_all rfl))
    (pss_cons (ps_for PassesOwn.never rfl (pi_range1 rfl T.z_range (pa_cons (pv 1) pa_nil)) (pg_name (i := 4) sc__law_digits.nd rfl (Or.inl rfl))
    (pss_one (ps_expr (pe_bm PySem.F.plainAttrs_list PySem.F.slot_list_append PySem.F.type_list_append mt_append (pv 3) (pa_cons (pe_op op_modN (pe_callTy call_int1 rfl T.z_int boot_int (pa_cons (pe_call (ok__law_mixed T) (hr.mono (by decide)) rfl T.g__law_mixed T.F__law_mixed.kp (b__law_mixed T) .nil pass0 (pa_cons (pv 0) (pa_cons (pv 4) pa_nil))) pa_nil)) (pv 2)) pa_nil)))))
    (pss_one (ps_ret (pv 3))))
    pss_nil)
    (pss_cons (ps_for PassesOwn.never rfl (pi_range1 rfl T.z_range (pa_cons (pv 1) pa_nil)) (pg_name (i := 4) sc__law_digits.nd rfl (Or.inl rfl))
    (pss_cons (ps_expr (pe_bm PySem.F.plainAttrs_list PySem.F.slot_list_append PySem.F.type_list_append mt_append (pv 3) (pa_cons (pe_op op_modN (pe_callTy call_int1 rfl T.z_int boot_int (pa_cons (pv 0) pa_nil)) (pv 2)) pa_nil)))
    (pss_one (ps_set (i := 0) sc__law_digits.nd rfl (Or.inl rfl) (pe_op op_fdivN (pv 0) (pv 2))))))
    (pss_one (ps_ret (pv 3))))))
    , ?_⟩
    refine ⟨Nat.zero_le _, fun p hp => ?_⟩
    have s0 := same_new (o := .lst []) hp
    refine ⟨_, rfl, _, _, rfl, rfl, ⟨by decide, by decide, by decide⟩, _, _, rfl, rfl, _, rfl, ?_⟩
    refine ite2 (fun hc => ?_) (fun hc => ?_)
    · have hc' : c < 10 ^ 18 := of_decide_eq_true hc
      refine ⟨_, rfl, _, rfl, by decide, by decide, for_it walk_range (fun i σ H' => ∃ o4 : Option V, σ = [some (.int c), some (.int 30), some (.int 720), some (.ref p), o4] ∧ Same H H' ∧ H' p = some (.lst (((List.range i).map (dig1 c)).map vN))) ⟨none, rfl, s0, upd_same⟩ (fun i σ H' _ _ => True.intro) ?_ ?_⟩
      · rintro i x σ H1 H1' hi ⟨o4, rfl, s1, h1⟩ ⟨rfl, rfl⟩
        have hi' : i < 30 := hi
        refine ⟨_, rfl, .inl ⟨rfl, _, SqL.of h1⟩, _, rfl, _, rfl, c, i, by show [V.int c, V.int (0 + (i : Int))] = _; rw [Int.zero_add]; rfl, by omega, .inl ⟨_, rfl, _, rfl, _, _, rfl, rfl, (show (720 : Int) ≠ 0 by decide), ?_⟩⟩
        refine ⟨p, _, _, rfl, rfl, h1, lt_line (by rw [List.length_map, List.length_map, List.length_range]; omega), ?_⟩
        refine ⟨_, rfl, Same.put s1 hp, ?_⟩
        rw [upd_same]
        show some (HO.lst (_ ++ [V.int ((mixD c i).fmod 720)])) = _
        rw [dig1_eq, List.range_succ]
        simp [vN]
      · rintro σ H1 ⟨o4, rfl, s1, h1⟩
        refine ⟨_, rfl, q _ p s1 ?_⟩
        rw [h1]
        unfold digs
        rw [if_pos hc']
        rfl
    · have hc' : ¬ c < 10 ^ 18 := fun z => hc (decide_eq_true z)
      refine ⟨_, rfl, _, rfl, by decide, by decide, for_it walk_range (fun i σ H' => ∃ o4 : Option V, σ = [some (.int (cellAt c i)), some (.int 30), some (.int 720), some (.ref p), o4] ∧ Same H H' ∧ H' p = some (.lst (((List.range i).map (dig2 c)).map vN))) ⟨none, rfl, s0, upd_same⟩ (fun i σ H' _ _ => True.intro) ?_ ?_⟩
      · rintro i x σ H1 H1' hi ⟨o4, rfl, s1, h1⟩ ⟨rfl, rfl⟩
        have hi' : i < 30 := hi
        refine ⟨_, rfl, .inl ⟨rfl, _, SqL.of h1⟩, _, rfl, .inl ⟨_, rfl, _, rfl, _, _, rfl, rfl, (show (720 : Int) ≠ 0 by decide), ?_⟩⟩
        refine ⟨p, _, _, rfl, rfl, h1, lt_line (by rw [List.length_map, List.length_map, List.length_range]; omega), ?_⟩
        refine ⟨_, rfl, _, rfl, _, _, rfl, rfl, ⟨by decide, by decide⟩, ?_⟩
        refine ⟨_, rfl, Same.put s1 hp, ?_⟩
        rw [upd_same]
        show some (HO.lst (_ ++ [V.int ((cellAt c i).fmod 720)])) = _
        rw [dig2_eq, List.range_succ]
        simp [vN]
      · rintro σ H1 ⟨o4, rfl, s1, h1⟩
        refine ⟨_, rfl, q _ p s1 ?_⟩
        rw [h1]
        unfold digs
        rw [if_neg hc']
        rfl
end
end SW


set_option maxRecDepth 100000
set_option maxHeartbeats 2000000
/-! _law_frame. -/
namespace SW
open PySem PySem.Spec PyProof.Rows L2
theorem any_mapT {β : Type} [DecidableEq β] {f : β → PyData} (h : ∀ a b, PyData.eqv (f a) (f b) = decide (a = b)) {x : β} {l : List β} (hx : x ∈ l) : ((l.map f).any fun z => PyData.eqv z (f x)) = true := by rw [any_map h, decide_eq_true hx]
theorem any_mapF {β : Type} [DecidableEq β] {f : β → PyData} (h : ∀ a b, PyData.eqv (f a) (f b) = decide (a = b)) {x : β} {l : List β} (hx : ¬ x ∈ l) : ((l.map f).any fun z => PyData.eqv z (f x)) = false := by rw [any_map h, decide_eq_false hx]
section
variable {P : Program} {w : World} {K : PySem.W.Frag} {mg : Str → Option Value} {base : Heap}
theorem ok__law_frame (T : Txt K mg w) : FnOk P w K mg base CX0 1 T.f__law_frame T.fd__law_frame ["_law_step", "_law_frames"] sp_next_frame := by
  refine T.F__law_frame.ok sc__law_frame (fun vs H Q E h => ?_) (fun cdv A outer s H vs Q E hr h => ?_)
  · obtain ⟨v, p, st, fs, rfl, _⟩ := h
    rfl
  · obtain ⟨v, p, st, fs, rfl, hv, hp, hfs, hok, q⟩ := h
    obtain ⟨a, rfl, ha⟩ := hv.stepI
    have hu := hu65 hr
    refine ⟨_, PSs.nox (pss_cons (ps_set (i := 2) sc__law_frame.nd rfl (Or.inl rfl) (pe_ix op_ix (pv 0) pe_int (fun _ _ => rfl)))
    (pss_cons (ps_if (pt_cmpR op_eq (pv 2) pe_str (by first | exact nomark _ | with_unfolding_all rfl))
    (pss_one (ps_ret (pe_tup (pa_cons (pe_tup pa_nil) (pa_cons (pe_tup pa_nil) pa_nil)))))
    pss_nil)
    (pss_cons (ps_asg (pe_ix op_ix (pv 1) pe_int (fun _ _ => rfl)) (pg_tup (by rfl) (pgs_cons (pg_name (i := 3) sc__law_frame.nd rfl (Or.inl rfl)) (pgs_cons (pg_name (i := 4) sc__law_frame.nd rfl (Or.inl rfl)) pgs_nil))))
    (pss_cons (ps_if (pt_cmpR op_eq (pv 2) pe_str (by first | exact nomark _ | with_unfolding_all rfl))
    (pss_cons (ps_if (PW.pt (pw_or (pt_cmpR (op_neT (Nat.lt_of_succ_lt hu)) (pe_ix op_ix (pe_ix op_ix (pv 1) pe_int (fun _ _ => rfl)) pe_int (fun _ _ => rfl)) (pv 3) (by first | exact nomark _ | with_unfolding_all rfl)) (pw_or1 (pt_cmpR op_gt (pe_callB cr_len rfl T.z_len boot_len (pa_cons (pe_lc (own := [("_law_pair", 6)]) (g := gName 6) rfl sc__law_frame.nd (pi_tup (pv 4)) (blkOk_by (N := ["_law_step", "_law_frames", "_law_word", "_law_labels", "_law_pairs", "_law_i", "_law_pair", "_law_one"]) (sc := defScope s__law_frame) (by decide +kernel)) (fun _ _ _ _ _ => pg_name (i := 6) sc__law_frame.nd rfl (Or.inl rfl)) (fun _ _ _ _ _ => pts_one (pt_cmpR (op_inT (Nat.lt_of_succ_lt hu)) (pv 6) (pe_ix op_ix (pe_ix op_ix (pv 1) pe_int (fun _ _ => rfl)) pe_int (fun _ _ => rfl)) (by first | exact nomark _ | with_unfolding_all rfl))) (fun _ _ _ _ _ => (pv 6))) pa_nil)) pe_int (by first | exact nomark _ | with_unfolding_all rfl)))))
    (pss_one (ps_ret pe_non))
    pss_nil)
    (pss_one (ps_ret (pe_tup (pa_cons (pv 3) (pa_cons (pe_callTy cr_tup rfl T.z_tuple boot_tuple (pa_cons (pe_callB (cr_sortedD hu) rfl T.z_sorted boot_sorted (pa_cons (pe_op op_catTup (pv 4) (pe_ix op_ix (pe_ix op_ix (pv 1) pe_int (fun _ _ => rfl)) pe_int (fun _ _ => rfl))) pa_nil)) pa_nil)) pa_nil))))))
    pss_nil)
    (pss_cons (ps_set (i := 5) sc__law_frame.nd rfl (Or.inr rfl) (pe_ix op_ix (pv 0) pe_int (fun _ _ => rfl)))
    (pss_cons (ps_if (pt_cmpR op_eq (pv 2) pe_str (by first | exact nomark _ | with_unfolding_all rfl))
    (pss_one (ps_ret (pe_ifExp (pt_cmpR (op_inT (Nat.lt_of_succ_lt hu)) (pv 5) (pv 3) (by first | exact nomark _ | with_unfolding_all rfl)) pe_non (pe_tup (pa_cons (pe_callTy cr_tup rfl T.z_tuple boot_tuple (pa_cons (pe_callB (cr_sortedD hu) rfl T.z_sorted boot_sorted (pa_cons (pe_op op_catTup (pv 3) (pe_tup (pa_cons (pv 5) pa_nil))) pa_nil)) pa_nil)) (pa_cons (pv 4) pa_nil))))))
    pss_nil)
    (pss_cons (ps_if (pt_cmpR (op_notInT (Nat.lt_of_succ_lt hu)) (pv 5) (pv 3) (by first | exact nomark _ | with_unfolding_all rfl))
    (pss_one (ps_ret pe_non))
    pss_nil)
    (pss_cons (ps_if (pt_cmpR op_eq (pv 2) pe_str (by first | exact nomark _ | with_unfolding_all rfl))
    (pss_one (ps_ret (pe_tup (pa_cons (pe_callTy cr_tup rfl T.z_tuple boot_tuple (pa_cons (pe_lc (own := [("_law_one", 7)]) (g := gName 7) rfl sc__law_frame.nd (pi_tup (pv 3)) (blkOk_by (N := ["_law_step", "_law_frames", "_law_word", "_law_labels", "_law_pairs", "_law_i", "_law_pair", "_law_one"]) (sc := defScope s__law_frame) (by decide +kernel)) (fun _ _ _ _ _ => pg_name (i := 7) sc__law_frame.nd rfl (Or.inl rfl)) (fun _ _ _ _ _ => pts_one (pt_cmpR op_ne (pv 7) (pv 5) (by first | exact nomark _ | with_unfolding_all rfl))) (fun _ _ _ _ _ => (pv 7))) pa_nil)) (pa_cons (pe_callTy cr_tup rfl T.z_tuple boot_tuple (pa_cons (pe_lc (own := [("_law_pair", 6)]) (g := gName 6) rfl sc__law_frame.nd (pi_tup (pv 4)) (blkOk_by (N := ["_law_step", "_law_frames", "_law_word", "_law_labels", "_law_pairs", "_law_i", "_law_pair", "_law_one"]) (sc := defScope s__law_frame) (by decide +kernel)) (fun _ _ _ _ _ => pg_name (i := 6) sc__law_frame.nd rfl (Or.inl rfl)) (fun _ _ _ _ _ => pts_one (pt_cmpR (op_notInT (Nat.lt_of_succ_lt hu)) (pv 5) (pv 6) (by first | exact nomark _ | with_unfolding_all rfl))) (fun _ _ _ _ _ => (pv 6))) pa_nil)) pa_nil)))))
    pss_nil)
    (pss_cons (ps_if (PW.pt (pw_or (pt_cmpR op_ge (pv 5) (pe_ix op_ix (pv 0) pe_int (fun _ _ => rfl)) (by first | exact nomark _ | with_unfolding_all rfl)) (pw_or (pt_cmpR (op_notInT (Nat.lt_of_succ_lt hu)) (pe_ix op_ix (pv 0) pe_int (fun _ _ => rfl)) (pv 3) (by first | exact nomark _ | with_unfolding_all rfl)) (pw_or1 (pt_cmpR (op_inT (Nat.lt_of_succ_lt hu)) (pe_slice sl_t (pv 0) (po_some pe_int) po_none) (pv 4) (by first | exact nomark _ | with_unfolding_all rfl))))))
    (pss_one (ps_ret pe_non))
    pss_nil)
    (pss_one (ps_ret (pe_tup (pa_cons (pv 3) (pa_cons (pe_callTy cr_tup rfl T.z_tuple boot_tuple (pa_cons (pe_callB (cr_sortedD hu) rfl T.z_sorted boot_sorted (pa_cons (pe_op op_catTup (pv 4) (pe_tup (pa_cons (pe_slice sl_t (pv 0) (po_some pe_int) po_none) pa_nil))) pa_nil)) pa_nil)) pa_nil))))))))))))))
    , ?_⟩
    obtain ⟨vs, hp1, hp2⟩ := hp
    cases st with
    | empty =>
      refine ⟨_, rfl, _, _, _, _, rfl, rfl, .inr ha, at0, _, rfl, rfl, _, rfl, ifT (seq rfl) ?_⟩
      refine ⟨Nat.zero_le _, fun t1 h1 => ⟨Nat.zero_le _, fun t2 h2 => ⟨two_line, fun t3 h3 => ?_⟩⟩⟩
      have s1 := same_new (o := .tup []) h1
      have s2 := same_new (o := .tup []) h2
      have s3 := same_new (o := .tup [.ref t1, .ref t2]) h3
      refine q _ _ ((s1.trans s2).trans s3) (show TD _ _ _ from TD.frm (f := ([], [])) upd_same (.tup (s3 _ _ (s2 _ _ upd_same)) .nil) (.tup (s3 _ _ upd_same) .nil))
    | new i =>
      obtain ⟨f, rfl⟩ : ∃ f, fs = [f] := List.length_eq_one_iff.mp hfs
      cases hp2 with
      | cons hf hz =>
      cases hz
      obtain ⟨b, x, y, rfl, hb, hx, hy⟩ := hf.frmI
      have hl : f.1.length ≤ 100000 := (hok f (by simp)).1
      obtain ⟨c, rfl, hc⟩ := hx.natsI
      refine ⟨_, rfl, _, _, _, _, rfl, rfl, .inr ha, at0, _, rfl, rfl, _, rfl, ifF (sne (show ("new" : Str) ≠ "empty" by decide)) ?_⟩
      refine ⟨_, rfl, _, _, _, _, rfl, rfl, .inl hp1, at0, _, _, rfl, SqT.of hb, rfl, _, _, rfl, _, _, rfl, rfl, ?_⟩
      refine ⟨_, rfl, rfl, _, rfl, ifF (sne (show ("new" : Str) ≠ "join" by decide)) ?_⟩
      refine ⟨_, rfl, _, _, _, _, rfl, rfl, .inr ha, at1, _, rfl, rfl, _, rfl, ifT (seq rfl) ?_⟩
      refine ⟨_, rfl, _, rfl, dN i, f.1.map dN, .int _, hx, Nice.of (ni_N _) (by decide), ⟨(niceAll_map ni_N _).lay, Nat.le_trans (niceAll_map ni_N _).dep (by decide)⟩, _, rfl, ?_⟩
      rw [any_map eqv_N]
      refine ite2 (fun h => ?_) (fun h => ?_)
      · have hi : i ∈ f.1 := of_decide_eq_true h
        refine q _ _ (Same.refl H) ?_
        show FrV _ _ (if i ∈ f.1 then none else some (SWM.srtN (f.1 ++ [i]), f.2))
        rw [if_pos hi]
        rfl
      · have hi : ¬ i ∈ f.1 := fun z => h (decide_eq_true z)
        refine ⟨_, rfl, _, rfl, one_line, fun t1 h1 => ?_⟩
        have s1 := same_new (o := .tup [vN i]) h1
        refine ⟨_, _, _, _, rfl, rfl, s1 _ _ hc, upd_same, le_line (by simp; omega), fun p2 H2 s2 hp2 => ?_⟩
        refine sortedN (f.1 ++ [i]) (.inr hp2) (by have := TDs.ofNats (H := H2) (f.1 ++ [i]); simpa [vN] using this) fun p3 h3 => ?_
        have s3 := same_new (o := .lst ((SWM.srtN (f.1 ++ [i])).map vN)) h3
        refine ⟨_, _, rfl, upd_same, fun p4 h4 => ?_⟩
        have s4 := same_new (o := .tup ((SWM.srtN (f.1 ++ [i])).map vN)) h4
        refine ⟨_, rfl, two_line, fun p5 h5 => ?_⟩
        have s5 := same_new (o := .tup [.ref p4, y]) h5
        have ss := (((s1.trans s2).trans s3).trans s4).trans s5
        refine q _ _ ss ?_
        show FrV _ _ (if i ∈ f.1 then none else some (SWM.srtN (f.1 ++ [i]), f.2))
        rw [if_neg hi]
        exact TD.frm (f := (_, _)) upd_same (TD.ofNats (s5 _ _ upd_same)) (hy.mono (Same.t ss))
    | forget i =>
      obtain ⟨f, rfl⟩ : ∃ f, fs = [f] := List.length_eq_one_iff.mp hfs
      cases hp2 with
      | cons hf hz =>
      cases hz
      obtain ⟨b, x, y, rfl, hb, hx, hy⟩ := hf.frmI
      have hl : f.1.length ≤ 100000 := (hok f (by simp)).1
      have hl2 : f.2.length ≤ 100000 := (hok f (by simp)).2
      obtain ⟨c, rfl, hc⟩ := hx.natsI
      obtain ⟨d, ys, rfl, hd, hys⟩ := hy.tupI
      refine ⟨_, rfl, _, _, _, _, rfl, rfl, .inr ha, at0, _, rfl, rfl, _, rfl, ifF (sne (show ("forget" : Str) ≠ "empty" by decide)) ?_⟩
      refine ⟨_, rfl, _, _, _, _, rfl, rfl, .inl hp1, at0, _, _, rfl, SqT.of hb, rfl, _, _, rfl, _, _, rfl, rfl, ?_⟩
      refine ⟨_, rfl, rfl, _, rfl, ifF (sne (show ("forget" : Str) ≠ "join" by decide)) ?_⟩
      refine ⟨_, rfl, _, _, _, _, rfl, rfl, .inr ha, at1, _, rfl, rfl, _, rfl, ifF (sne (show ("forget" : Str) ≠ "new" by decide)) ?_⟩
      refine ⟨_, rfl, _, rfl, dN i, f.1.map dN, .int _, hx, Nice.of (ni_N _) (by decide), ⟨(niceAll_map ni_N _).lay, Nat.le_trans (niceAll_map ni_N _).dep (by decide)⟩, _, rfl, ?_⟩
      rw [any_map eqv_N]
      by_cases hi : i ∈ f.1
      · rw [decide_eq_true hi]
        refine iteF ⟨_, rfl, rfl, _, rfl, ifT (seq rfl) ?_⟩
        refine ⟨_, rfl, _, rfl, ⟨_, SqT.of hc⟩, fun D hD => lc_td (walk_tup (xs := f.1.map vN)) hD (outF f.1 (fun x => decide (x ≠ i)) dN) outF_0 (fun H h => SqT.of (h _ _ hc)) ?_ ?_⟩
        · rintro j x H1 H1' hj pl ⟨rfl, hx⟩
          obtain ⟨n, hn, rfl⟩ := map_at hx
          refine ⟨rfl, _, rfl, _, rfl, rfl, _, rfl, ?_⟩
          rw [vdec]
          by_cases e : n = i
          · rw [decide_eq_true e]
            show PL _ _ _ _
            rw [outF_no hn (by simpa using e)]
            exact pl
          · rw [decide_eq_false e]
            refine ⟨_, rfl, ?_⟩
            rw [outF_yes hn (by simpa using e)]
            exact pl.add hD (Same.refl _) (.int _) (lt_line (by have := outF_len (l := f.1) (p := fun x => decide (x ≠ i)) (f := dN) (i := j); omega))
        · intro H1 pl
          rw [show (f.1.map vN).length = f.1.length by simp, outF_all] at pl
          refine ⟨_, _, rfl, pl.nats, fun p1 h1 => ?_⟩
          have s1 := pl.1.trans (same_new (o := .tup ((f.1.filter fun x => decide (x ≠ i)).map vN)) h1)
          refine ⟨_, rfl, _, rfl, ⟨_, SqT.of (s1 _ _ hd)⟩, fun D2 hD2 => lc_td (walk_tup (xs := ys)) hD2 (outF f.2 (fun q => decide (¬ (i = q.1 ∨ i = q.2))) dP) outF_0 (fun H h => SqT.of (h _ _ (s1 _ _ hd))) ?_ ?_⟩
          · rintro j x H2 H2' hj pl2 ⟨rfl, hx⟩
            obtain ⟨dd, hn, hxd⟩ := hys.getV hx
            obtain ⟨pr, hpr, rfl⟩ := map_at hn
            have s2 := s1.trans pl2.1
            have hxp := hxd.mono (Same.t s2)
            refine ⟨rfl, _, rfl, _, rfl, dN i, [pr.1, pr.2].map dN, .int _, hxp, Nice.of (ni_N _) (by decide), ⟨(niceAll_map ni_N _).lay, Nat.le_trans (niceAll_map ni_N _).dep (by decide)⟩, _, rfl, ?_⟩
            rw [any_map eqv_N]
            by_cases e : i = pr.1 ∨ i = pr.2
            · rw [decide_eq_true (by simpa using e)]
              show PL _ _ _ _
              rw [outF_no hpr (decide_eq_false fun z => z e)]
              exact pl2
            · rw [decide_eq_false (by simpa using e)]
              refine ⟨_, rfl, ?_⟩
              rw [outF_yes hpr (decide_eq_true e)]
              exact pl2.add hD2 (Same.refl _) hxp (lt_line (by have := outF_len (l := f.2) (p := fun q : Nat × Nat => decide (¬ (i = q.1 ∨ i = q.2))) (f := dP) (i := j); omega))
          · intro H2 pl2
            rw [show ys.length = f.2.length by rw [hys.length]; simp, outF_all] at pl2
            obtain ⟨s2, zs, hz1, hz2⟩ := pl2
            refine ⟨_, _, rfl, hz1, fun p3 h3 => ?_⟩
            have s3 := same_new (o := .tup zs) h3
            refine ⟨two_line, fun p4 h4 => ?_⟩
            have s4 := same_new (o := .tup [.ref p1, .ref p3]) h4
            refine q _ _ (((s1.trans s2).trans s3).trans s4) ?_
            show FrV _ _ (if i ∈ f.1 then some (f.1.filter (fun x => decide (x ≠ i)), f.2.filter fun q => decide (¬ (i = q.1 ∨ i = q.2))) else none)
            rw [if_pos hi]
            exact TD.frm (f := (_, _)) upd_same (TD.ofNats (s4 _ _ (s3 _ _ (s2 _ _ upd_same)))) (.tup (s4 _ _ upd_same) (hz2.mono (Same.t (s3.trans s4))))
      · rw [decide_eq_false hi]
        refine iteT ?_
        refine q _ _ (Same.refl H) ?_
        show FrV _ _ (if i ∈ f.1 then some (f.1.filter (fun x => decide (x ≠ i)), f.2.filter fun q => decide (¬ (i = q.1 ∨ i = q.2))) else none)
        rw [if_neg hi]
        rfl
    | edge i j =>
      obtain ⟨f, rfl⟩ : ∃ f, fs = [f] := List.length_eq_one_iff.mp hfs
      cases hp2 with
      | cons hf hz =>
      cases hz
      obtain ⟨b, x, y, rfl, hb, hx, hy⟩ := hf.frmI
      have hl : f.1.length ≤ 100000 := (hok f (by simp)).1
      have hl2 : f.2.length ≤ 100000 := (hok f (by simp)).2
      obtain ⟨c, rfl, hc⟩ := hx.natsI
      obtain ⟨d, ys, rfl, hd, hys⟩ := hy.tupI
      have noN : ∀ H', Same H H' → ¬ (i < j ∧ i ∈ f.1 ∧ j ∈ f.1 ∧ ¬ (i, j) ∈ f.2) → Q .non H' := fun H' ss hn => by
        refine q _ _ ss ?_
        show FrV _ _ (if i < j ∧ i ∈ f.1 ∧ j ∈ f.1 ∧ ¬ (i, j) ∈ f.2 then some (f.1, SWM.srtP (f.2 ++ [(i, j)])) else none)
        rw [if_neg hn]; rfl
      refine ⟨_, rfl, _, _, _, _, rfl, rfl, .inr ha, at0, _, rfl, rfl, _, rfl, ifF (sne (show ("edge" : Str) ≠ "empty" by decide)) ?_⟩
      refine ⟨_, rfl, _, _, _, _, rfl, rfl, .inl hp1, at0, _, _, rfl, SqT.of hb, rfl, _, _, rfl, _, _, rfl, rfl, ?_⟩
      refine ⟨_, rfl, rfl, _, rfl, ifF (sne (show ("edge" : Str) ≠ "join" by decide)) ?_⟩
      refine ⟨_, rfl, _, _, _, _, rfl, rfl, .inr ha, at1, _, rfl, rfl, _, rfl, ifF (sne (show ("edge" : Str) ≠ "new" by decide)) ?_⟩
      refine ⟨_, rfl, _, rfl, dN i, f.1.map dN, .int _, hx, Nice.of (ni_N _) (by decide), ⟨(niceAll_map ni_N _).lay, Nat.le_trans (niceAll_map ni_N _).dep (by decide)⟩, _, rfl, ?_⟩
      rw [any_map eqv_N]
      by_cases h2' : i ∈ f.1
      · rw [decide_eq_true h2']
        refine iteF ⟨_, rfl, rfl, _, rfl, ifF (sne (show ("edge" : Str) ≠ "forget" by decide)) ?_⟩
        refine ⟨_, rfl, _, rfl, _, _, _, _, rfl, rfl, .inr ha, at2, _, _, rfl, rfl, _, rfl, ?_⟩
        by_cases h1' : i < j
        · refine ifF (decide_eq_false (by omega)) ?_
          refine ⟨_, rfl, _, _, _, _, rfl, rfl, .inr ha, at2, _, rfl, dN j, f.1.map dN, .int _, hx, Nice.of (ni_N _) (by decide), ⟨(niceAll_map ni_N _).lay, Nat.le_trans (niceAll_map ni_N _).dep (by decide)⟩, _, rfl, ?_⟩
          rw [any_map eqv_N]
          by_cases h3' : j ∈ f.1
          · rw [decide_eq_true h3']
            refine iteF ?_
            refine ⟨_, rfl, _, rfl, _, _, rfl, ha, part_of (a := 1) rfl (by decide) (by simp), fun p1 hp1' => ?_⟩
            rw [cut_from (i := 1) _ 1 rfl]
            have s1 := same_new (o := .tup [vN i, vN j]) hp1'
            refine ⟨_, rfl, dP (i, j), f.2.map dP, TD.ofPair (p := (i, j)) upd_same, hy.mono (Same.t s1), Nice.of (ni_P (i, j)) (by decide), ⟨(niceAll_map ni_P f.2).lay, Nat.le_trans (niceAll_map ni_P f.2).dep (by decide)⟩, _, rfl, ?_⟩
            by_cases h4' : (i, j) ∈ f.2
            · rw [any_mapT eqv_P h4']
              refine iteT ?_
              exact noN _ s1 fun z => z.2.2.2 h4'
            · rw [any_mapF eqv_P h4']
              refine iteF ?_
              refine ⟨_, rfl, _, rfl, _, rfl, _, rfl, _, _, rfl, s1 _ _ ha, part_of (a := 1) rfl (by decide) (by simp), fun p2 hp2' => ?_⟩
              rw [cut_from (i := 1) _ 1 rfl]
              have s2 := s1.trans (same_new (o := .tup [vN i, vN j]) hp2')
              refine ⟨one_line, fun p3 hp3' => ?_⟩
              have s3 := s2.trans (same_new (o := .tup [.ref p2]) hp3')
              refine ⟨_, _, _, _, rfl, rfl, s3 _ _ hd, upd_same, le_line (by rw [hys.length]; simp; omega), fun p4 H4 s4 hp4 => ?_⟩
              have s4' := s3.trans s4
              have t1 : TD H4 (.ref p2) (dP (i, j)) := TD.ofPair (p := (i, j)) (s4 _ _ (same_new hp3' _ _ upd_same))
              refine sortedP (f.2 ++ [(i, j)]) (.inr hp4) (by rw [List.map_append]; exact (hys.mono (Same.t s4')).snoc t1) fun p5 zs hzs hp5 => ?_
              have s5 := same_new (o := .lst zs) hp5
              refine ⟨_, _, rfl, upd_same, fun p6 hp6 => ?_⟩
              have s6 := same_new (o := .tup zs) hp6
              refine ⟨two_line, fun p7 hp7 => ?_⟩
              have s7 := same_new (o := .tup [.ref c, .ref p6]) hp7
              refine q _ _ (((s4'.trans s5).trans s6).trans s7) ?_
              show FrV _ _ (if i < j ∧ i ∈ f.1 ∧ j ∈ f.1 ∧ ¬ (i, j) ∈ f.2 then some (f.1, SWM.srtP (f.2 ++ [(i, j)])) else none)
              rw [if_pos ⟨h1', h2', h3', h4'⟩]
              exact TD.frm (f := (_, _)) upd_same (hx.mono (Same.t (((s4'.trans s5).trans s6).trans s7))) (.tup (s7 _ _ upd_same) (hzs.mono (Same.t ((s5.trans s6).trans s7))))
          · rw [decide_eq_false h3']
            refine iteT ?_
            exact noN _ (Same.refl H) fun z => h3' z.2.2.1
        · refine ifT (decide_eq_true (by omega)) ?_
          exact noN _ (Same.refl H) fun z => h1' z.1
      · rw [decide_eq_false h2']
        refine iteT ?_
        exact noN _ (Same.refl H) fun z => h2' z.2.1
    | join =>
      obtain ⟨f, g, rfl⟩ : ∃ f g, fs = [f, g] := (by cases fs with | nil => simp [SWM.ar] at hfs | cons f r => cases r with | nil => simp [SWM.ar] at hfs | cons g r => cases r with | nil => exact ⟨f, g, rfl⟩ | cons => simp [SWM.ar] at hfs)
      cases hp2 with
      | cons hf hz =>
      cases hz with
      | cons hg hz =>
      cases hz
      obtain ⟨b, x, y, rfl, hb, hx, hy⟩ := hf.frmI
      obtain ⟨b2, x2, y2, rfl, hb2, hx2, hy2⟩ := hg.frmI
      have hl2 : f.2.length ≤ 100000 := (hok f (by simp)).2
      have hl3 : g.2.length ≤ 100000 := (hok g (by simp)).2
      obtain ⟨d, ys, rfl, hd, hys⟩ := hy.tupI
      obtain ⟨d2, ys2, rfl, hd2, hys2⟩ := hy2.tupI
      have noN : ∀ H', Same H H' → ¬ (g.1 = f.1 ∧ ∀ q ∈ g.2, ¬ q ∈ f.2) → Q .non H' := fun H' ss hn => by
        refine q _ _ ss ?_
        show FrV _ _ (if g.1 = f.1 ∧ ∀ q ∈ g.2, ¬ q ∈ f.2 then some (f.1, SWM.srtP (f.2 ++ g.2)) else none)
        rw [if_neg hn]; rfl
      refine ⟨_, rfl, _, _, _, _, rfl, rfl, .inr ha, at0, _, rfl, rfl, _, rfl, ifF (sne (show ("join" : Str) ≠ "empty" by decide)) ?_⟩
      refine ⟨_, rfl, _, _, _, _, rfl, rfl, .inl hp1, at0, _, _, rfl, SqT.of hb, rfl, _, _, rfl, _, _, rfl, rfl, ?_⟩
      refine ⟨_, rfl, rfl, _, rfl, ifT (seq rfl) ?_⟩
      refine ⟨_, rfl, _, _, _, _, rfl, rfl, .inl hp1, at1, _, _, _, _, rfl, rfl, .inr hb2, at0, _, rfl, dNs g.1, dNs f.1, hx2, hx, Nice.of (ni_Ns _) (by decide), Nice.of (ni_Ns _) (by decide), _, rfl, ?_⟩
      rw [eqv_Ns]
      by_cases h1' : g.1 = f.1
      · rw [decide_eq_true h1']
        refine iteF ?_
        refine ⟨_, rfl, d, rfl, ⟨_, SqT.of hd⟩, fun D hD => lc_td (walk_tup (xs := ys)) hD (outF f.2 (fun q => decide (q ∈ g.2)) dP) outF_0 (fun H h => SqT.of (h _ _ hd)) ?_ ?_⟩
        · rintro k x H2 H2' hj pl2 ⟨rfl, hx⟩
          obtain ⟨dd, hn, hxd⟩ := hys.getV hx
          obtain ⟨pr, hpr, rfl⟩ := map_at hn
          have hxd2 := hxd.mono (Same.t pl2.1)
          refine ⟨rfl, _, rfl, _, rfl, _, _, _, _, rfl, rfl, .inl (pl2.1 _ _ hp1), at1, _, _, _, _, rfl, rfl, .inr (pl2.1 _ _ hb2), at1, dP pr, g.2.map dP, hxd2, hy2.mono (Same.t pl2.1), Nice.of (ni_P pr) (by decide), ⟨(niceAll_map ni_P g.2).lay, Nat.le_trans (niceAll_map ni_P g.2).dep (by decide)⟩, _, rfl, ?_⟩
          by_cases e : pr ∈ g.2
          · rw [any_mapT eqv_P e]
            refine ⟨_, rfl, ?_⟩
            rw [outF_yes hpr (decide_eq_true e)]
            exact pl2.add hD (Same.refl _) hxd2 (lt_line (Nat.le_trans outF_len (by omega)))
          · rw [any_mapF eqv_P e]
            show PL _ _ _ _
            rw [outF_no hpr (decide_eq_false e)]
            exact pl2
        · intro H2 pl2
          rw [show ys.length = f.2.length by rw [hys.length]; simp, outF_all] at pl2
          obtain ⟨s2, zs, hz1, hz2⟩ := pl2
          have hzl : zs.length = (f.2.filter fun q => decide (q ∈ g.2)).length := by rw [hz2.length, List.length_map]
          refine ⟨_, _, rfl, .inl hz1, _, _, rfl, rfl, _, rfl, ?_⟩
          by_cases hz : (f.2.filter fun q => decide (q ∈ g.2)).length = 0
          · refine ifF (decide_eq_false (by rw [hzl]; omega)) ?_
            have h2' : ∀ q ∈ g.2, ¬ q ∈ f.2 := fun q hq hf => by
              have := List.length_eq_zero_iff.mp hz
              have hm : q ∈ f.2.filter fun q => decide (q ∈ g.2) := List.mem_filter.mpr ⟨hf, decide_eq_true hq⟩
              rw [this] at hm; cases hm
            refine ⟨_, rfl, _, rfl, _, rfl, _, _, _, _, rfl, rfl, .inl (s2 _ _ hp1), at1, _, _, _, _, rfl, rfl, .inr (s2 _ _ hb2), at1, _, _, _, _, rfl, rfl, s2 _ _ hd, s2 _ _ hd2, le_line (by rw [hys.length, hys2.length]; simp; omega), fun p4 H4 s4 hp4 => ?_⟩
            have s4' := s2.trans s4
            refine sortedP (f.2 ++ g.2) (.inr hp4) (by rw [List.map_append]; exact (hys.append hys2).mono (Same.t s4')) fun p5 zs hzs hp5 => ?_
            have s5 := same_new (o := .lst zs) hp5
            refine ⟨_, _, rfl, upd_same, fun p6 hp6 => ?_⟩
            have s6 := same_new (o := .tup zs) hp6
            refine ⟨two_line, fun p7 hp7 => ?_⟩
            have s7 := same_new (o := .tup [x, .ref p6]) hp7
            refine q _ _ (((s4'.trans s5).trans s6).trans s7) ?_
            show FrV _ _ (if g.1 = f.1 ∧ ∀ q ∈ g.2, ¬ q ∈ f.2 then some (f.1, SWM.srtP (f.2 ++ g.2)) else none)
            rw [if_pos ⟨h1', h2'⟩]
            exact TD.frm (f := (_, _)) upd_same (hx.mono (Same.t (((s4'.trans s5).trans s6).trans s7))) (.tup (s7 _ _ upd_same) (hzs.mono (Same.t ((s5.trans s6).trans s7))))
          · refine ifT (decide_eq_true (by rw [hzl]; omega)) ?_
            refine noN _ s2 fun z => ?_
            obtain ⟨q, hq⟩ := List.exists_mem_of_length_pos (Nat.pos_of_ne_zero hz)
            obtain ⟨h3, h4⟩ := List.mem_filter.mp hq
            exact z.2 q (of_decide_eq_true h4) h3
      · rw [decide_eq_false h1']
        refine iteT ?_
        exact noN _ (Same.refl H) fun z => h1' z.1
end
end SW


set_option maxRecDepth 100000
set_option maxHeartbeats 2000000
/-! _law_put. -/
namespace SW
open PySem PySem.Spec PyProof.Rows L2
def kv5 : List (Key × V) := [(.inr "empty", .int 0), (.inr "new", .int 1), (.inr "edge", .int 1), (.inr "forget", .int 1), (.inr "join", .int 2)]
theorem kv5_at (s : SWM.Stp) : valV (mergeK [] kv5) (.inr (wd s)) = some (vN (SWM.ar s)) := by
  cases s <;> rfl
section
variable {P : Program} {w : World} {K : PySem.W.Frag} {mg : Str → Option Value} {base : Heap}
def sp__law_put : Sp := fun vs H Q _ => ∃ (p q : Addr) (v : V) (s : SWM.Stp) (st : SWM.LS), vs = [.ref p, .ref q, v] ∧ p ≠ q ∧ LD H p (st.1.map dS) ∧ LD H q (st.2.map dF) ∧ TD H v (dS s) ∧ st.1.length ≤ 100000 ∧ st.2.length ≤ 100000 ∧ SWM.sumF st.2 ≤ 100000 ∧
  ∀ H', Mv [p, q] H H' → LD H' p ((SWM.putS st s).1.map dS) → LD H' q ((SWM.putS st s).2.map dF) → Q .non H'
theorem ok__law_put (T : Txt K mg w) : FnOk P w K mg base CX0 2 T.f__law_put T.fd__law_put ["_law_steps", "_law_stack", "_law_step"] sp__law_put := by
  refine T.F__law_put.ok sc__law_put (fun vs H Q E h => ?_) (fun cdv A outer s H vs Q E hr h => ?_)
  · obtain ⟨p, q, v, st, L, rfl, _⟩ := h
    rfl
  · obtain ⟨p, q, v, st, L, rfl, npq, ⟨pv1, hp1, hp2⟩, ⟨qv, hq1, hq2⟩, hv, hz1, hz2, hz3, k⟩ := h
    have hu1 := hu_of hr
    refine ⟨_, PSs.nox (pss_cons (ps_set (i := 3) sc__law_put.nd rfl (Or.inl rfl) (pe_dget hu1 (pe_disp (pps_cons pe_str pe_int (pps_cons pe_str pe_int (pps_cons pe_str pe_int (pps_cons pe_str pe_int (pps_cons pe_str pe_int pps_nil))))) (by rfl) (by rfl) (fun z => by cases z) (by decide)) (pe_ix op_ix (pv 2) pe_int (fun _ _ => rfl)) (fun _ _ => rfl)))
    (pss_cons (ps_if (pt_cmpR op_lt (pe_callB cr_len rfl T.z_len boot_len (pa_cons (pv 1) pa_nil)) (pv 3) (by first | exact nomark _ | with_unfolding_all rfl))
    (pss_one (ps_retN))
    pss_nil)
    (pss_cons (ps_set (i := 4) sc__law_put.nd rfl (Or.inl rfl) (pe_slice sl_l (pv 1) (po_some (pe_op op_sub (pe_callB cr_len rfl T.z_len boot_len (pa_cons (pv 1) pa_nil)) (pv 3))) po_none))
    (pss_cons (ps_set (i := 5) sc__law_put.nd rfl (Or.inl rfl) (pe_call (ok__law_frame T) (hr.mono (by decide)) rfl T.g__law_frame T.F__law_frame.kp (b__law_frame T) .nil pass0 (pa_cons (pv 2) (pa_cons (pv 4) pa_nil))))
    (pss_one (ps_if (pt_cmpR op_notN (pv 5) pe_non (by first | exact nomark _ | with_unfolding_all rfl))
    (pss_cons (ps_expr (pe_bm PySem.F.plainAttrs_list PySem.F.slot_list_append PySem.F.type_list_append mt_append (pv 0) (pa_cons (pv 2) pa_nil)))
    (pss_cons (ps_for PassesOwn.never rfl (pi_range1 rfl T.z_range (pa_cons (pv 3) pa_nil)) (pg_name (i := 6) sc__law_put.nd rfl (Or.inl rfl))
    (pss_one (ps_expr (pe_bm0 PySem.F.plainAttrs_list PySem.F.slot_list_pop PySem.F.type_list_pop mt_pop (pv 1)))))
    (pss_one (ps_expr (pe_bm PySem.F.plainAttrs_list PySem.F.slot_list_append PySem.F.type_list_append mt_append (pv 1) (pa_cons (pv 5) pa_nil))))))
    pss_nil))))))
    , ?_⟩
    obtain ⟨a, rfl, ha⟩ := hv.stepI
    intro d hd
    have s0 := same_new (o := .dK []) hd
    refine ⟨upd_same, kv5, rfl, by decide, ?_⟩
    have s1 : Same H (upd (upd H d (.dK [])) d (.dK (mergeK [] kv5))) := Same.put s0 hd
    refine ⟨_, rfl, _, _, _, _, rfl, rfl, .inr (s1 _ _ ha), at0, d, vN (SWM.ar st), rfl, ?_, ?_⟩
    · have := DGet.k (k := Sum.inr (wd st)) (upd_same (H := upd H d (.dK [])) (a := d) (o := .dK (mergeK [] kv5)))
      rw [kv5_at] at this
      exact this
    · generalize upd (upd H d (.dK [])) d (.dK (mergeK [] kv5)) = H1 at s1
      have hql : qv.length = L.2.length := by rw [hq2.length]; simp
      have hqa := s1 _ _ hq1
      refine ⟨_, rfl, _, _, rfl, .inl hqa, _, rfl, _, _, rfl, rfl, _, rfl, ?_⟩
      by_cases hlt : L.2.length < SWM.ar st
      · refine ifT (decide_eq_true (by rw [hql]; omega)) ?_
        have e : SWM.putS L st = L := SWM.putS_none (by unfold SWM.stepF; rw [if_pos hlt])
        refine k _ (Same.mv s1) ?_ ?_
        · rw [e]; exact ⟨pv1, s1 _ _ hp1, hp2.mono (Same.t s1)⟩
        · rw [e]; exact ⟨qv, hqa, hq2.mono (Same.t s1)⟩
      · refine ifF (decide_eq_false (by rw [hql]; omega)) ?_
        have hbeg : ((qv.length : Int) - ((SWM.ar st : Nat) : Int)) = ((L.2.length - SWM.ar st : Nat) : Int) := by rw [hql]; omega
        refine ⟨_, rfl, _, rfl, _, _, rfl, .inl hqa, _, rfl, _, _, rfl, rfl, _, rfl, _, _, rfl, hqa, fun r hr' => ?_⟩
        rw [cut_from qv _ hbeg]
        have s2 := same_new (o := .lst (qv.drop (L.2.length - SWM.ar st))) hr'
        have s12 := s1.trans s2
        refine ⟨_, rfl, _, rfl, _, r, st, L.2.drop (L.2.length - SWM.ar st), rfl, hv.mono (Same.t s12), ⟨_, upd_same, by rw [List.map_drop]; exact (hq2.mono (Same.t s12)).drop _⟩, by rw [List.length_drop]; omega, fun g hg => ?_, fun H3 v3 s3 hv3 => ?_⟩
        · have := SWM.sz_mem (List.mem_of_mem_drop hg)
          unfold SWM.szF at this
          exact ⟨by omega, by omega⟩
        · have s13 := s12.trans s3
          have hp3 := s13 _ _ hp1
          have hq3 := s13 _ _ hq1
          have tp3 := hp2.mono (Same.t s13)
          have tq3 := hq2.mono (Same.t s13)
          cases hfr : SWM.nextF st (L.2.drop (L.2.length - SWM.ar st)) with
          | none =>
            rw [hfr] at hv3
            have hv3' : v3 = .non := hv3
            subst hv3'
            have e : SWM.putS L st = L := SWM.putS_none (by unfold SWM.stepF; rw [if_neg hlt, hfr]; rfl)
            refine ⟨_, rfl, rfl, _, rfl, ifF rfl ?_⟩
            refine k _ (Same.mv s13) ?_ ?_
            · rw [e]; exact ⟨pv1, hp3, tp3⟩
            · rw [e]; exact ⟨qv, hq3, tq3⟩
          | some fr =>
            rw [hfr] at hv3
            have hv3' : TD H3 v3 (dF fr) := hv3
            obtain ⟨fa, fx, fy, rfl, _, _, _⟩ := hv3'.frmI
            have e : SWM.putS L st = (L.1 ++ [st], L.2.take (L.2.length - SWM.ar st) ++ [fr]) := by
              unfold SWM.putS SWM.stepF
              rw [if_neg hlt, hfr]; rfl
            refine ⟨_, rfl, rfl, _, rfl, ifT rfl ?_⟩
            have hpl : pv1.length = L.1.length := by rw [hp2.length]; simp
            refine ⟨_, rfl, .inl ⟨rfl, _, SqL.of hp3⟩, _, rfl, p, pv1, _, rfl, rfl, hp3, lt_line (by omega), ?_⟩
            have M4 : Mv [p, q] H3 (upd H3 p (.lst (pv1 ++ [.ref a]))) := Mv.put (by simp) hp3 (fun _ z => by cases z)
            have hq4 : (upd H3 p (.lst (pv1 ++ [.ref a]))) q = some (.lst qv) := by rw [upd_ne npq.symm]; exact hq3
            have hp4 : (upd H3 p (.lst (pv1 ++ [.ref a]))) p = some (.lst (pv1 ++ [.ref a])) := upd_same
            generalize upd H3 p (.lst (pv1 ++ [.ref a])) = H4 at M4 hq4 hp4
            -- for _ in range(many): stack.pop()
            refine ⟨_, rfl, SWM.ar st, rfl, by omega, by have : SWM.ar st ≤ 2 := (by cases st <;> simp [SWM.ar]); omega, for_it walk_range (fun i σ H' => ∃ o6 : Option V, σ = [some (.ref p), some (.ref q), some (.ref a), some (vN (SWM.ar st)), some (.ref r), some (.ref fa), o6] ∧ Mv [p, q] H4 H' ∧ H' q = some (.lst (qv.take (L.2.length - i))) ∧ H' p = some (.lst (pv1 ++ [.ref a])))
              ⟨none, rfl, Mv.refl _ _, by rw [Nat.sub_zero, List.take_of_length_le (by omega)]; exact hq4, hp4⟩ (fun i σ H' _ _ => True.intro) ?_ ?_⟩
            · rintro i x σ H5 H5' hi ⟨o6, rfl, m5, hq5, hp5⟩ ⟨rfl, rfl⟩
              have hi' : i < SWM.ar st := by
                have : ((SWM.ar st : Nat) : Int).toNat = SWM.ar st := by omega
                omega
              have hne : (qv.take (L.2.length - i)).length = L.2.length - i := by rw [List.length_take]; omega
              obtain ⟨y, hy⟩ : ∃ y, (qv.take (L.2.length - i))[(qv.take (L.2.length - i)).length - 1]? = some y := ⟨_, List.getElem?_eq_getElem (by omega)⟩
              refine ⟨_, rfl, .inl ⟨rfl, _, SqL.of hq5⟩, q, _, y, rfl, rfl, hq5, hy, ?_⟩
              refine ⟨_, rfl, m5.trans (Mv.put (by simp) hq5 (fun _ z => by cases z)), ?_, by rw [upd_ne npq]; exact hp5⟩
              rw [upd_same, List.dropLast_eq_take, hne, List.take_take, Nat.min_eq_left (by omega)]
              congr 3
            · rintro σ H5 ⟨o6, rfl, m5, hq5, hp5⟩
              have e6 : ((SWM.ar st : Nat) : Int).toNat = SWM.ar st := by omega
              rw [e6] at hq5
              refine ⟨_, rfl, .inl ⟨rfl, _, SqL.of hq5⟩, _, rfl, q, _, _, rfl, rfl, hq5, lt_line (by rw [List.length_take]; omega), ?_⟩
              have M6 := (M4.trans m5).trans (Mv.put (S := [p, q]) (u := .lst (qv.take (L.2.length - SWM.ar st) ++ [.ref fa])) (by simp) hq5 (fun _ z => by cases z))
              refine k _ ((Same.mv s13).trans M6) ?_ ?_
              · rw [e]
                refine ⟨pv1 ++ [.ref a], by rw [upd_ne npq]; exact hp5, ?_⟩
                rw [List.map_append]
                exact (tp3.mono M6.2).snoc ((hv.mono (Same.t s13)).mono M6.2)
              · rw [e]
                refine ⟨_, upd_same, ?_⟩
                rw [List.map_append, List.map_take]
                exact ((tq3.mono M6.2).take _).snoc (hv3'.mono M6.2)
end
end SW


set_option maxRecDepth 100000
set_option maxHeartbeats 2000000
/-! _law_turned, _law_put_join. -/
namespace SW
open PySem PySem.Spec PyProof.Rows L2
section
variable {P : Program} {w : World} {K : PySem.W.Frag} {mg : Str → Option Value} {base : Heap}
def sp__law_turned (CG : Addr) : Sp := fun vs H Q _ => ∃ (gp : Addr) (vo : V) (n : Nat) (es : List (Nat × Nat)) (o : List Nat), vs = [.ref gp, vo] ∧ GrAt CG H gp n es ∧ TD H vo (dNs o) ∧ (∀ e ∈ es, e.1 < o.length ∧ e.2 < o.length) ∧ es.length ≤ 100000 ∧
  ∀ H' v, Same H H' → TD H' v (dPs (SWM.srtP (es.map fun e => SWM.sp (o.getD e.1 0, o.getD e.2 0)))) → Q v H'
theorem ok__law_turned (T : Txt K mg w) : FnOk P w K mg base CX0 1 T.f__law_turned T.fd__law_turned ["_law_graph", "_law_order"] (sp__law_turned T.C_Graph) := by
  refine T.F__law_turned.ok sc__law_turned (fun vs H Q E h => ?_) (fun cdv A outer s H vs Q E hr h => ?_)
  · obtain ⟨gp, vo, n, es, o, rfl, _⟩ := h
    rfl
  · obtain ⟨gp, vo, n, es, o, rfl, ⟨dx, fs, ve, g1, g2, g3, g4⟩, ho, hes, hz, q⟩ := h
    have hu := hu65 hr
    refine ⟨_, PSs.nox (pss_one (ps_ret (pe_callTy cr_tup rfl T.z_tuple boot_tuple (pa_cons (pe_callB (cr_sortedD hu) rfl T.z_sorted boot_sorted (pa_cons (pe_lc (own := [("_law_u", 2), ("_law_v", 3)]) (g := gTup K 2 (gCons (gName 2) (gCons (gName 3) gNil))) rfl sc__law_turned.nd (pi_tup (pe_f (C := T.C_Graph) (pv 0) T.cl_Graph T.n_Graph_edges)) (blkOk_by (N := ["_law_graph", "_law_order", "_law_u", "_law_v"]) (sc := defScope s__law_turned) (by decide +kernel)) (fun _ _ _ _ _ => pg_tup rfl (pgs_cons (pg_name (i := 2) sc__law_turned.nd rfl (Or.inl rfl)) (pgs_cons (pg_name (i := 3) sc__law_turned.nd rfl (Or.inl rfl)) pgs_nil))) (fun _ _ _ _ _ => pts_nil) (fun _ _ _ _ _ => (pe_callTy cr_tup rfl T.z_tuple boot_tuple (pa_cons (pe_callB (cr_sortedD hu) rfl T.z_sorted boot_sorted (pa_cons (pe_lst (pa_cons (pe_ix op_ix (pv 1) (pv 2) (fun _ _ => rfl)) (pa_cons (pe_ix op_ix (pv 1) (pv 3) (fun _ _ => rfl)) pa_nil))) pa_nil)) pa_nil)))) pa_nil)) pa_nil))))
    , ?_⟩
    obtain ⟨et, ys, rfl, he1, he2⟩ := g4.tupI
    obtain ⟨oa, rfl, hoa⟩ := ho.natsI
    have hyl : ys.length = es.length := by rw [he2.length]; simp
    refine ⟨_, rfl, _, _, _, _, rfl, g1, g3, et, rfl, ⟨_, SqT.of he1⟩, fun D hD => lc_td (walk_tup (xs := ys)) hD (outM es (fun e => dP (SWM.sp (o.getD e.1 0, o.getD e.2 0)))) outM_0 (fun H h => SqT.of (h _ _ he1)) ?_ ?_⟩
    · rintro i x H1 H1' hi pl ⟨rfl, hx⟩
      obtain ⟨dd, hn, hxd⟩ := he2.getV hx
      obtain ⟨pr, hpr, rfl⟩ := map_at hn
      obtain ⟨b, rfl, hb⟩ := (hxd.mono (Same.t pl.1)).pairI
      obtain ⟨l1, l2⟩ := hes pr (List.mem_of_getElem? hpr)
      have hoa1 := pl.1 _ _ hoa
      have g : ∀ j, j < o.length → (o.map vN)[j]? = some (vN (o.getD j 0)) := fun j hj => by
        rw [List.getElem?_map, List.getElem?_eq_getElem hj, List.getD_eq_getElem?_getD, List.getElem?_eq_getElem hj]; rfl
      refine ⟨_, _, rfl, SqT.of hb, rfl, _, _, rfl, _, _, rfl, rfl, rfl, ?_⟩
      refine ⟨_, rfl, _, rfl, _, _, _, vN (o.getD pr.1 0), rfl, rfl, .inr hoa1, atI_nat (g _ l1), _, rfl, _, rfl, _, _, _, vN (o.getD pr.2 0), rfl, rfl, .inr hoa1, atI_nat (g _ l2), two_line, fun q1 hq1 => ?_⟩
      have s4 := same_new (o := .lst [vN (o.getD pr.1 0), vN (o.getD pr.2 0)]) hq1
      refine sortedN [o.getD pr.1 0, o.getD pr.2 0] (.inl upd_same) (.cons (.int _) (.cons (.int _) .nil)) fun q2 hq2 => ?_
      rw [srt_two]
      have s5 := same_new (o := .lst (([(SWM.sp (o.getD pr.1 0, o.getD pr.2 0)).1, (SWM.sp (o.getD pr.1 0, o.getD pr.2 0)).2]).map vN)) hq2
      refine ⟨_, _, rfl, upd_same, fun q3 hq3 => ?_⟩
      have s6 := same_new (o := .tup (([(SWM.sp (o.getD pr.1 0, o.getD pr.2 0)).1, (SWM.sp (o.getD pr.1 0, o.getD pr.2 0)).2]).map vN)) hq3
      rw [outM_yes hpr]
      exact pl.add hD ((s4.trans s5).trans s6) (TD.ofPair (p := SWM.sp (o.getD pr.1 0, o.getD pr.2 0)) upd_same) (lt_line (Nat.le_trans outM_len (by omega)))
    · intro H1 pl
      rw [hyl, outM_all, show es.map (fun e => dP (SWM.sp (o.getD e.1 0, o.getD e.2 0))) = (es.map fun e => SWM.sp (o.getD e.1 0, o.getD e.2 0)).map dP by simp] at pl
      obtain ⟨s1, zs, hz1, hz2⟩ := pl
      refine sortedP (es.map fun e => SWM.sp (o.getD e.1 0, o.getD e.2 0)) (.inl hz1) hz2 fun p5 us hus hp5 => ?_
      have s5 := same_new (o := .lst us) hp5
      refine ⟨_, _, rfl, upd_same, fun p6 hp6 => ?_⟩
      have s6 := same_new (o := .tup us) hp6
      exact q _ _ (s1.trans (s5.trans s6)) (.tup upd_same (hus.mono (Same.t (s5.trans s6))))
end
end SW


set_option maxRecDepth 100000
set_option maxHeartbeats 2000000
/-! _law_put_join. -/
namespace SW
open PySem PySem.Spec PyProof.Rows L2
def phi (st : SWM.LS) : Nat := st.1.length + st.2.length + SWM.sumF st.2
theorem phi_put (st : SWM.LS) (s : SWM.Stp) : phi (SWM.putS st s) ≤ phi st + 3 := by
  unfold SWM.putS
  cases e : SWM.stepF s st.2 with
  | none => show phi st ≤ _; omega
  | some fs =>
    have := SWM.step_sz e
    show (st.1 ++ [s]).length + fs.length + SWM.sumF fs ≤ _
    unfold phi
    rw [List.length_append, List.length_singleton]; omega
theorem len_put {st : SWM.LS} {s : SWM.Stp} (h : SWM.ar s = 1) : (SWM.putS st s).2.length = st.2.length := by
  unfold SWM.putS
  cases e : SWM.stepF s st.2 with
  | none => rfl
  | some fs =>
    obtain ⟨h1, f, h2, h3⟩ := SWM.step_inv e
    show fs.length = _
    rw [h3, List.length_append, List.length_take, List.length_singleton]; omega
theorem pj1_ok (st : SWM.LS) (q : Nat × Nat) : phi (SWM.pj1 st q) ≤ phi st + 3 ∧ (SWM.pj1 st q).2.length = st.2.length := by
  unfold SWM.pj1
  split
  · exact ⟨phi_put _ _, len_put rfl⟩
  · exact ⟨by omega, rfl⟩
theorem pj1s_ok : ∀ (l : List (Nat × Nat)) (st : SWM.LS), phi (l.foldl SWM.pj1 st) ≤ phi st + 3 * l.length ∧ (l.foldl SWM.pj1 st).2.length = st.2.length
  | [], st => ⟨by simp, rfl⟩
  | q :: l, st => by
    obtain ⟨h1, h2⟩ := pj1_ok st q
    obtain ⟨h3, h4⟩ := pj1s_ok l (SWM.pj1 st q)
    rw [List.foldl_cons]
    exact ⟨by simp only [List.length_cons]; omega, by rw [h4, h2]⟩
theorem pj2_ok (low : SWM.Frm) (st : SWM.LS) (l : Nat) : phi (SWM.pj2 low st l) ≤ phi st + 6 ∧ (SWM.pj2 low st l).2.length = st.2.length := by
  have h : ∀ c : Prop, ∀ _ : Decidable c, ∀ s : SWM.Stp, SWM.ar s = 1 → ∀ st : SWM.LS, phi (if c then SWM.putS st s else st) ≤ phi st + 3 ∧ (if c then SWM.putS st s else st).2.length = st.2.length := fun c _ s hs st => by
    split
    · exact ⟨phi_put _ _, len_put hs⟩
    · exact ⟨by omega, rfl⟩
  obtain ⟨a1, a2⟩ := h (l ∈ (SWM.topF st).1 ∧ ¬ l ∈ low.1) inferInstance (.forget l) rfl st
  obtain ⟨b1, b2⟩ := h (l ∈ low.1) inferInstance (.new l) rfl (if l ∈ (SWM.topF st).1 ∧ ¬ l ∈ low.1 then SWM.putS st (.forget l) else st)
  unfold SWM.pj2
  dsimp only
  exact ⟨by omega, by rw [b2, a2]⟩
theorem pj2s_ok (low : SWM.Frm) : ∀ (l : List Nat) (st : SWM.LS), phi (l.foldl (SWM.pj2 low) st) ≤ phi st + 6 * l.length ∧ (l.foldl (SWM.pj2 low) st).2.length = st.2.length
  | [], st => ⟨by simp, rfl⟩
  | q :: l, st => by
    obtain ⟨h1, h2⟩ := pj2_ok low st q
    obtain ⟨h3, h4⟩ := pj2s_ok low l (SWM.pj2 low st q)
    rw [List.foldl_cons]
    exact ⟨by simp only [List.length_cons]; omega, by rw [h4, h2]⟩
/-- the top of a stack that is not empty -/
theorem top_at {H : Hp} {q : Addr} {st : SWM.LS} (h : LD H q (st.2.map dF)) (hne : 1 ≤ st.2.length) : ∃ qv vt, H q = some (.lst qv) ∧ atI qv (-1) = some vt ∧ TD H vt (dF (SWM.topF st)) := by
  obtain ⟨qv, h1, h2⟩ := h
  obtain ⟨S, g, e⟩ := SWM.list_one hne
  have et : SWM.topF st = g := by unfold SWM.topF; rw [e, List.getLastD_concat]
  rw [e, List.map_append] at h2
  have hg : (S.map dF ++ [g].map dF)[S.length]? = some (dF g) := by simp
  obtain ⟨vt, a1, a2⟩ := h2.get hg
  have hl : qv.length = S.length + 1 := by rw [h2.length]; simp
  refine ⟨qv, vt, h1, atL ?_, by rw [et]; exact a2⟩
  rw [List.getLast?_eq_getElem?, hl]
  exact a1
section
variable {P : Program} {w : World} {K : PySem.W.Frag} {mg : Str → Option Value} {base : Heap}
def sp__law_put_join : Sp := fun vs H Q _ => ∃ (p q : Addr) (k : Nat) (st : SWM.LS), vs = [.ref p, .ref q, vN k] ∧ p ≠ q ∧ LD H p (st.1.map dS) ∧ LD H q (st.2.map dF) ∧ phi st ≤ 20000 ∧ (SWM.lowF st).2.length ≤ 2000 ∧ 2 ≤ st.2.length ∧ k ≤ 12 ∧
  ∀ H', Mv [p, q] H H' → LD H' p ((SWM.putJ k st).1.map dS) → LD H' q ((SWM.putJ k st).2.map dF) → Q .non H'
theorem ok__law_put_join (T : Txt K mg w) : FnOk P w K mg base CX0 3 T.f__law_put_join T.fd__law_put_join ["_law_steps", "_law_stack", "_law_k"] sp__law_put_join := by
  refine T.F__law_put_join.ok sc__law_put_join (fun vs H Q E h => ?_) (fun cdv A outer s H vs Q E hr h => ?_)
  · obtain ⟨p, q, k, st, rfl, _⟩ := h
    rfl
  · obtain ⟨p, q, k, st, rfl, npq, hp, hq, hphi, hlow, h2, hk, fin⟩ := h
    have hu := hu65 hr
    refine ⟨_, PSs.nox (pss_cons (ps_set (i := 3) sc__law_put_join.nd rfl (Or.inl rfl) (pe_ix op_ix (pv 1) (pe_un un_neg pe_int) (fun _ _ => rfl)))
    (pss_cons (ps_for PassesOwn.never rfl (pi_tup (pe_ix op_ix (pv 3) pe_int (fun _ _ => rfl))) (pg_name (i := 4) sc__law_put_join.nd rfl (Or.inl rfl))
    (pss_one (ps_if (pt_cmpR (op_inT (Nat.lt_of_succ_lt hu)) (pv 4) (pe_ix op_ix (pe_ix op_ix (pv 1) (pe_un un_neg pe_int) (fun _ _ => rfl)) pe_int (fun _ _ => rfl)) (by first | exact nomark _ | with_unfolding_all rfl))
    (pss_one (ps_expr (pe_call (ok__law_put T) (hr.mono (by decide)) rfl T.g__law_put T.F__law_put.kp (b__law_put T) .nil pass0 (pa_cons (pv 0) (pa_cons (pv 1) (pa_cons (pe_tup (pa_cons pe_str (pa_cons (pe_ix op_ix (pv 4) pe_int (fun _ _ => rfl)) pa_nil))) pa_nil))))))
    pss_nil)))
    (pss_cut (ps_for PassesOwn.never rfl (pi_range1 rfl T.z_range (pa_cons (pe_op op_add (pv 2) pe_int) pa_nil)) (pg_name (i := 5) sc__law_put_join.nd rfl (Or.inl rfl))
    (pss_cut (ps_if (PW.pt (pw_and (pt_cmpR (op_inT (Nat.lt_of_succ_lt hu)) (pv 5) (pe_ix op_ix (pe_ix op_ix (pv 1) (pe_un un_neg pe_int) (fun _ _ => rfl)) pe_int (fun _ _ => rfl)) (by first | exact nomark _ | with_unfolding_all rfl)) (pw_and1 (pt_cmpR (op_notInT (Nat.lt_of_succ_lt hu)) (pv 5) (pe_ix op_ix (pv 3) pe_int (fun _ _ => rfl)) (by first | exact nomark _ | with_unfolding_all rfl)))))
    (pss_one (ps_expr (pe_call (ok__law_put T) (hr.mono (by decide)) rfl T.g__law_put T.F__law_put.kp (b__law_put T) .nil pass0 (pa_cons (pv 0) (pa_cons (pv 1) (pa_cons (pe_tup (pa_cons pe_str (pa_cons (pv 5) pa_nil))) pa_nil))))))
    pss_nil)
    (pss_one (ps_if (pt_cmpR (op_inT (Nat.lt_of_succ_lt hu)) (pv 5) (pe_ix op_ix (pv 3) pe_int (fun _ _ => rfl)) (by first | exact nomark _ | with_unfolding_all rfl))
    (pss_one (ps_expr (pe_call (ok__law_put T) (hr.mono (by decide)) rfl T.g__law_put T.F__law_put.kp (b__law_put T) .nil pass0 (pa_cons (pv 0) (pa_cons (pv 1) (pa_cons (pe_tup (pa_cons pe_str (pa_cons (pv 5) pa_nil))) pa_nil))))))
    pss_nil))))
    (pss_one (ps_expr (pe_call (ok__law_put T) (hr.mono (by decide)) rfl T.g__law_put T.F__law_put.kp (b__law_put T) .nil pass0 (pa_cons (pv 0) (pa_cons (pv 1) (pa_cons (pe_tup (pa_cons pe_str pa_nil)) pa_nil)))))))))
    , ?_⟩
    -- lower = stack[-2]
    obtain ⟨S, lo, up, hS⟩ := SWM.list_two h2
    have elow : SWM.lowF st = lo := by
      unfold SWM.lowF
      rw [hS, show S ++ [lo, up] = (S ++ [lo]) ++ [up] by simp, List.dropLast_concat, List.getLastD_concat]
    obtain ⟨qv, hq1, hq2⟩ := id hq
    have hql : qv.length = S.length + 2 := by rw [hq2.length, hS]; simp
    obtain ⟨vl, hvl1, hvl2⟩ := hq2.get (i := S.length) (d := dF lo) (by rw [hS]; simp)
    have hat : atI qv (-2 : Int) = some vl := by
      unfold atI ixN
      rw [if_neg (by decide), if_pos (by omega), Option.bind_some]
      have e : ((-2 : Int) + (qv.length : Int)).toNat = S.length := by omega
      rw [e]; exact hvl1
    obtain ⟨lt, lx, ly, rfl, hlt, hlx, hly⟩ := hvl2.frmI
    obtain ⟨ld, lys, rfl, hld, hlys⟩ := hly.tupI
    have hlyl : lys.length = lo.2.length := by rw [hlys.length]; simp
    rw [elow] at hlow
    have hphi0 : phi st ≤ 20000 := hphi
    have hlen0 : st.2.length ≤ 20000 := by unfold phi at hphi; omega
    refine ⟨_, rfl, _, rfl, _, _, _, _, rfl, rfl, .inl hq1, hat, ?_⟩
    refine ⟨_, rfl, _, _, _, _, rfl, rfl, .inr hlt, at1, ld, rfl, ⟨_, SqT.of hld⟩, for_it (walk_tup (xs := lys)) (fun i σ H' => ∃ o4 o5 : Option V, σ = [some (.ref p), some (.ref q), some (vN k), some (.ref lt), o4, o5] ∧ Mv [p, q] H H' ∧ LD H' p (((lo.2.take i).foldl SWM.pj1 st).1.map dS) ∧ LD H' q (((lo.2.take i).foldl SWM.pj1 st).2.map dF))
      ⟨none, none, rfl, Mv.refl _ _, hp, hq⟩ (fun i σ H' _ ⟨_, _, _, mv, _⟩ => SqT.of (mv.2 _ _ hld)) ?_ ?_⟩
    · rintro i x σ H1 H1' hi ⟨o4, o5, rfl, mv, hp1, hq1'⟩ ⟨rfl, hx⟩
      obtain ⟨dd, hn, hxd⟩ := hlys.getV hx
      obtain ⟨pr, hpr, rfl⟩ := map_at hn
      have e4 : lo.2.take (i + 1) = lo.2.take i ++ [pr] := by rw [List.take_add_one, hpr]; rfl
      rw [e4, List.foldl_append]
      obtain ⟨f1, f2⟩ := pj1s_ok (lo.2.take i) st
      have htl := List.length_take_le' i lo.2
      generalize (lo.2.take i).foldl SWM.pj1 st = st1 at hp1 hq1' f1 f2
      obtain ⟨qv1, vt, g1, g2, g3⟩ := top_at hq1' (by omega)
      obtain ⟨tt, tx, ty, rfl, htt, htx, hty⟩ := g3.frmI
      have hxm := hxd.mono mv.2
      refine ⟨_, rfl, _, rfl, _, rfl, _, _, _, _, rfl, rfl, .inl g1, g2, _, _, _, _, rfl, rfl, .inr htt, at1, dP pr, (SWM.topF st1).2.map dP, hxm, hty, Nice.of (ni_P pr) (by decide), ⟨(niceAll_map ni_P _).lay, Nat.le_trans (niceAll_map ni_P _).dep (by decide)⟩, _, rfl, ?_⟩
      by_cases e : pr ∈ (SWM.topF st1).2
      · rw [any_mapT eqv_P e]
        refine iteT ?_
        obtain ⟨b, rfl, hb⟩ := hxm.pairI
        refine ⟨_, rfl, _, rfl, _, rfl, _, _, _, _, rfl, rfl, .inr hb, at0, two_line, fun t ht => ?_⟩
        have s2 := same_new (o := .tup [.str "forget", vN pr.1]) ht
        have hphi1 : phi st1 ≤ 30000 := by omega
        unfold phi at hphi1
        refine ⟨p, q, _, .forget pr.1, st1, rfl, npq, LD.same hp1 s2, LD.same hq1' s2, TD.ofStep (s := .forget pr.1) upd_same, by omega, by omega, by omega, fun H3 m3 hp3 hq3 => ?_⟩
        have ep : [pr].foldl SWM.pj1 st1 = SWM.putS st1 (.forget pr.1) := by
          show SWM.pj1 st1 pr = _
          unfold SWM.pj1
          rw [if_pos e]
        rw [ep]
        exact ⟨_, _, rfl, (mv.trans (Same.mv s2)).trans m3, hp3, hq3⟩
      · rw [any_mapF eqv_P e]
        have ep : [pr].foldl SWM.pj1 st1 = st1 := by
          show SWM.pj1 st1 pr = _
          unfold SWM.pj1
          rw [if_neg e]
        rw [ep]
        refine iteF ?_
        exact ⟨_, _, rfl, mv, hp1, hq1'⟩
    · rintro σ H1 ⟨o4, o5, rfl, mv, hp1, hq1'⟩
      rw [hlyl, List.take_length] at hp1 hq1'
      obtain ⟨f1, f2⟩ := pj1s_ok lo.2 st
      generalize hst1 : lo.2.foldl SWM.pj1 st = st1 at hp1 hq1' f1 f2
      refine ⟨fun σ H' => ∃ o4 o5 : Option V, σ = [some (.ref p), some (.ref q), some (vN k), some (.ref lt), o4, o5] ∧ Mv [p, q] H H' ∧ LD H' p (((List.range (k + 1)).foldl (SWM.pj2 lo) st1).1.map dS) ∧ LD H' q (((List.range (k + 1)).foldl (SWM.pj2 lo) st1).2.map dF), ?_, ?_⟩
      · refine ⟨_, rfl, _, _, rfl, rfl, _, rfl, by omega, by omega, for_it walk_range (fun i σ H' => ∃ o4 o5 : Option V, σ = [some (.ref p), some (.ref q), some (vN k), some (.ref lt), o4, o5] ∧ Mv [p, q] H H' ∧ LD H' p (((List.range i).foldl (SWM.pj2 lo) st1).1.map dS) ∧ LD H' q (((List.range i).foldl (SWM.pj2 lo) st1).2.map dF))
          ⟨o4, o5, rfl, mv, hp1, hq1'⟩ (fun i σ H' _ _ => True.intro) ?_ ?_⟩
        · rintro i x σ H2 H2' hi ⟨o4, o5, rfl, mv2, hp2, hq2'⟩ ⟨rfl, rfl⟩
          have hik : i ≤ k := by
            have : i < ((k : Int) + 1).toNat := hi
            omega
          have er : List.range (i + 1) = List.range i ++ [i] := List.range_succ
          rw [er, List.foldl_append]
          obtain ⟨f3, f4⟩ := pj2s_ok lo (List.range i) st1
          rw [List.length_range] at f3
          have hphi1 : phi ((List.range i).foldl (SWM.pj2 lo) st1) ≤ 30000 := by omega
          generalize (List.range i).foldl (SWM.pj2 lo) st1 = sa at hp2 hq2' f3 f4 hphi1
          have ev : (V.int ((0 : Int) + (i : Int))) = vN i := by rw [Int.zero_add]; rfl
          obtain ⟨qv1, vt, g1, g2, g3⟩ := top_at hq2' (by omega)
          obtain ⟨tt, tx, ty, rfl, htt, htx, hty⟩ := g3.frmI
          have hlx2 := hlx.mono mv2.2
          have hlt2 := mv2.2 _ _ hlt
          show tCut _ _ _ [some (V.ref p), some (V.ref q), some (vN k), some (V.ref lt), o4, some (V.int ((0 : Int) + (i : Int)))] H2'
          rw [ev]
          refine ⟨fun σ H' => σ = [some (.ref p), some (.ref q), some (vN k), some (.ref lt), o4, some (vN i)] ∧ Mv [p, q] H H' ∧ LD H' p ((if i ∈ (SWM.topF sa).1 ∧ ¬ i ∈ lo.1 then SWM.putS sa (.forget i) else sa).1.map dS) ∧ LD H' q ((if i ∈ (SWM.topF sa).1 ∧ ¬ i ∈ lo.1 then SWM.putS sa (.forget i) else sa).2.map dF), ?_, ?_⟩
          · refine ⟨_, rfl, _, rfl, _, rfl, _, _, _, _, rfl, rfl, .inl g1, g2, _, _, _, _, rfl, rfl, .inr htt, at0, dN i, (SWM.topF sa).1.map dN, .int _, htx, Nice.of (ni_N i) (by decide), ⟨(niceAll_map ni_N _).lay, Nat.le_trans (niceAll_map ni_N _).dep (by decide)⟩, _, rfl, ?_⟩
            by_cases e1 : i ∈ (SWM.topF sa).1
            · rw [any_mapT eqv_N e1]
              refine iteT ?_
              refine ⟨_, rfl, _, rfl, _, _, _, _, rfl, rfl, .inr hlt2, at0, dN i, lo.1.map dN, .int _, hlx2, Nice.of (ni_N i) (by decide), ⟨(niceAll_map ni_N _).lay, Nat.le_trans (niceAll_map ni_N _).dep (by decide)⟩, _, rfl, ?_⟩
              by_cases e2 : i ∈ lo.1
              · rw [any_mapT eqv_N e2]
                refine iteF ?_
                rw [if_neg (fun z => z.2 e2)]
                exact ⟨rfl, mv2, hp2, hq2'⟩
              · rw [any_mapF eqv_N e2]
                refine iteT ?_
                rw [if_pos ⟨e1, e2⟩]
                refine ⟨_, rfl, _, rfl, _, rfl, two_line, fun t ht => ?_⟩
                have s2 := same_new (o := .tup [.str "forget", vN i]) ht
                unfold phi at hphi1
                refine ⟨p, q, _, .forget i, sa, rfl, npq, LD.same hp2 s2, LD.same hq2' s2, TD.ofStep (s := .forget i) upd_same, by omega, by omega, by omega, fun H3 m3 hp3 hq3 => ?_⟩
                exact ⟨rfl, (mv2.trans (Same.mv s2)).trans m3, hp3, hq3⟩
            · rw [any_mapF eqv_N e1]
              refine iteF ?_
              rw [if_neg (fun z => e1 z.1)]
              exact ⟨rfl, mv2, hp2, hq2'⟩
          · rintro σ H3 ⟨rfl, mv3, hp3, hq3⟩
            have epj : [i].foldl (SWM.pj2 lo) sa = (if i ∈ lo.1 then SWM.putS (if i ∈ (SWM.topF sa).1 ∧ ¬ i ∈ lo.1 then SWM.putS sa (.forget i) else sa) (.new i) else (if i ∈ (SWM.topF sa).1 ∧ ¬ i ∈ lo.1 then SWM.putS sa (.forget i) else sa)) := rfl
            rw [epj]
            have hphi2 : phi (if i ∈ (SWM.topF sa).1 ∧ ¬ i ∈ lo.1 then SWM.putS sa (.forget i) else sa) ≤ 40000 := by
              split
              · have := phi_put sa (.forget i); omega
              · omega
            generalize (if i ∈ (SWM.topF sa).1 ∧ ¬ i ∈ lo.1 then SWM.putS sa (.forget i) else sa) = sb at hp3 hq3 hphi2
            have hlx3 := hlx.mono mv3.2
            have hlt3 := mv3.2 _ _ hlt
            refine ⟨_, rfl, _, rfl, _, _, _, _, rfl, rfl, .inr hlt3, at0, dN i, lo.1.map dN, .int _, hlx3, Nice.of (ni_N i) (by decide), ⟨(niceAll_map ni_N _).lay, Nat.le_trans (niceAll_map ni_N _).dep (by decide)⟩, _, rfl, ?_⟩
            by_cases e2 : i ∈ lo.1
            · rw [any_mapT eqv_N e2]
              refine iteT ?_
              rw [if_pos e2]
              refine ⟨_, rfl, _, rfl, _, rfl, two_line, fun t ht => ?_⟩
              have s2 := same_new (o := .tup [.str "new", vN i]) ht
              unfold phi at hphi2
              refine ⟨p, q, _, .new i, sb, rfl, npq, LD.same hp3 s2, LD.same hq3 s2, TD.ofStep (s := .new i) upd_same, by omega, by omega, by omega, fun H4 m4 hp4 hq4 => ?_⟩
              exact ⟨_, _, rfl, (mv3.trans (Same.mv s2)).trans m4, hp4, hq4⟩
            · rw [any_mapF eqv_N e2]
              refine iteF ?_
              rw [if_neg e2]
              exact ⟨_, _, rfl, mv3, hp3, hq3⟩
        · rintro σ H2 ⟨o4, o5, rfl, mv2, hp2, hq2'⟩
          have e6 : ((k : Int) + 1).toNat = k + 1 := by omega
          rw [e6] at hp2 hq2'
          exact ⟨_, _, rfl, mv2, hp2, hq2'⟩
      · rintro σ H2 ⟨o4, o5, rfl, mv2, hp2, hq2'⟩
        obtain ⟨f3, f4⟩ := pj2s_ok lo (List.range (k + 1)) st1
        rw [List.length_range] at f3
        have hphi2 : phi ((List.range (k + 1)).foldl (SWM.pj2 lo) st1) ≤ 30000 := by omega
        have ej : SWM.putJ k st = SWM.putS ((List.range (k + 1)).foldl (SWM.pj2 lo) st1) .join := by
          unfold SWM.putJ
          rw [elow, hst1]
        rw [ej] at fin
        generalize (List.range (k + 1)).foldl (SWM.pj2 lo) st1 = st2 at hp2 hq2' hphi2 fin
        unfold phi at hphi2
        refine ⟨_, rfl, _, rfl, one_line, fun t ht => ?_⟩
        have s3 := same_new (o := .tup [.str "join"]) ht
        refine ⟨p, q, _, .join, st2, rfl, npq, LD.same hp2 s3, LD.same hq2' s3, TD.ofStep (s := .join) upd_same, by omega, by omega, by omega, fun H3 m3 hp3 hq3 => ?_⟩
        exact fin _ ((mv2.trans (Same.mv s3)).trans m3) hp3 hq3
end
end SW


set_option maxRecDepth 100000
set_option maxHeartbeats 2000000
/-! _law_term. -/
namespace SW
open PySem PySem.Spec PyProof.Rows L2
theorem digs_len (c : Int) : (digs c).length = 30 := by
  unfold digs
  split <;> simp
theorem m_8 (d : Nat) : ((d : Int)).fmod 8 = ((d % 8 : Nat) : Int) := by rw [Int.fmod_eq_emod_of_nonneg _ (by decide)]; rfl
theorem m_i (d n k : Nat) : (((d : Int)).fdiv (n : Int)).fmod ((k : Int) + 1) = ((d / n % (k + 1) : Nat) : Int) := by
  rw [Int.fmod_eq_emod_of_nonneg _ (by omega), Int.fdiv_eq_ediv_of_nonneg _ (by omega)]; rfl
section
variable {P : Program} {w : World} {K : PySem.W.Frag} {mg : Str → Option Value} {base : Heap}
def sp__law_term : Sp := fun vs H Q _ => ∃ (c : Int) (k : Nat), vs = [.int c, vN k, .int 28] ∧ k ≤ 4 ∧ ∀ H' v, Same H H' → TD H' v (dT (SWM.lawT k (digs c))) → Q v H'
theorem ok__law_term (T : Txt K mg w) : FnOk P w K mg base CX0 4 T.f__law_term T.fd__law_term ["_law_cell_here", "_law_k", "_law_most"] sp__law_term := by
  refine T.F__law_term.ok sc__law_term (fun vs H Q E h => ?_) (fun cdv A outer s H vs Q E hr h => ?_)
  · obtain ⟨c, k, rfl, _⟩ := h
    rfl
  · obtain ⟨c, k, rfl, hk, q⟩ := h
    have hu := hu65 hr
    refine ⟨_, PSs.nox (pss_cons (ps_set (i := 3) sc__law_term.nd rfl (Or.inl rfl) (pe_call (ok__law_digits T) (hr.mono (by decide)) rfl T.g__law_digits T.F__law_digits.kp (b__law_digits T) .nil pass0 (pa_cons (pv 0) (pa_cons pe_int (pa_cons pe_int pa_nil)))))
    (pss_cons (ps_par (i := 4) (j := 5) (by rfl) sc__law_term.nd rfl rfl (by decide) rfl rfl (pa_cons (pe_lst (pa_cons (pe_tup (pa_cons pe_str pa_nil)) pa_nil)) (pa_cons (pe_lst (pa_cons (pe_tup (pa_cons (pe_tup pa_nil) (pa_cons (pe_tup pa_nil) pa_nil))) pa_nil)) pa_nil)) (by rfl))
    (pss_cons (ps_for PassesOwn.never rfl (pi_list (pe_slice sl_l (pv 3) (po_some pe_int) (po_some (pe_op op_add pe_int (pe_op op_modN (pe_ix op_ix (pv 3) pe_int (fun _ _ => rfl)) (pv 2)))))) (pg_name (i := 6) sc__law_term.nd rfl (Or.inl rfl))
    (pss_cons (ps_par3 (i := 7) (j := 8) (l := 9) (by rfl) sc__law_term.nd rfl rfl rfl (by decide) (by decide) (by decide) rfl rfl rfl (pa_cons (pe_op op_modN (pv 6) pe_int) (pa_cons (pe_op op_modN (pe_op op_fdivN (pv 6) pe_int) (pe_op op_add (pv 1) pe_int)) (pa_cons (pe_op op_modN (pe_op op_fdivN (pv 6) pe_int) (pe_op op_add (pv 1) pe_int)) pa_nil))) (by rfl))
    (pss_one (ps_if (PW.pt (pw_and (pt_cmpR op_eq (pv 7) pe_int (by first | exact nomark _ | with_unfolding_all rfl)) (pw_and1 (pt_cmpR op_lt (pe_callB cr_len rfl T.z_len boot_len (pa_cons (pv 5) pa_nil)) pe_int (by first | exact nomark _ | with_unfolding_all rfl)))))
    (pss_one (ps_expr (pe_call (ok__law_put T) (hr.mono (by decide)) rfl T.g__law_put T.F__law_put.kp (b__law_put T) .nil pass0 (pa_cons (pv 4) (pa_cons (pv 5) (pa_cons (pe_tup (pa_cons pe_str pa_nil)) pa_nil))))))
    (pss_one (ps_if (pt_cmpR op_lt (pv 7) pe_int (by first | exact nomark _ | with_unfolding_all rfl))
    (pss_one (ps_expr (pe_call (ok__law_put T) (hr.mono (by decide)) rfl T.g__law_put T.F__law_put.kp (b__law_put T) .nil pass0 (pa_cons (pv 4) (pa_cons (pv 5) (pa_cons (pe_tup (pa_cons pe_str (pa_cons (pv 8) pa_nil))) pa_nil))))))
    (pss_one (ps_if (pt_cmpR op_lt (pv 7) pe_int (by first | exact nomark _ | with_unfolding_all rfl))
    (pss_one (ps_expr (pe_call (ok__law_put T) (hr.mono (by decide)) rfl T.g__law_put T.F__law_put.kp (b__law_put T) .nil pass0 (pa_cons (pv 4) (pa_cons (pv 5) (pa_cons (pe_tup (pa_cons pe_str (pa_cons (pe_callB (call_min2 rfl) rfl T.z_min boot_min (pa_cons (pv 8) (pa_cons (pv 9) pa_nil))) (pa_cons (pe_callB (call_max2 rfl) rfl T.z_max boot_max (pa_cons (pv 8) (pa_cons (pv 9) pa_nil))) pa_nil)))) pa_nil))))))
    (pss_one (ps_if (pt_cmpR op_eq (pv 7) pe_int (by first | exact nomark _ | with_unfolding_all rfl))
    (pss_one (ps_expr (pe_call (ok__law_put T) (hr.mono (by decide)) rfl T.g__law_put T.F__law_put.kp (b__law_put T) .nil pass0 (pa_cons (pv 4) (pa_cons (pv 5) (pa_cons (pe_tup (pa_cons pe_str (pa_cons (pv 8) pa_nil))) pa_nil))))))
    (pss_one (ps_if (pt_cmpR op_gt (pe_callB cr_len rfl T.z_len boot_len (pa_cons (pv 5) pa_nil)) pe_int (by first | exact nomark _ | with_unfolding_all rfl))
    (pss_one (ps_expr (pe_call (ok__law_put_join T) (hr.mono (by decide)) rfl T.g__law_put_join T.F__law_put_join.kp (b__law_put_join T) .nil pass0 (pa_cons (pv 4) (pa_cons (pv 5) (pa_cons (pv 1) pa_nil))))))
    pss_nil))))))))))))
    (pss_cons (ps_for PassesOwn.never rfl (pi_range1 rfl T.z_range (pa_cons pe_int pa_nil)) (pg_name (i := 10) sc__law_term.nd rfl (Or.inl rfl))
    (pss_one (ps_if (pt_cmpR op_gt (pe_callB cr_len rfl T.z_len boot_len (pa_cons (pv 5) pa_nil)) pe_int (by first | exact nomark _ | with_unfolding_all rfl))
    (pss_one (ps_expr (pe_call (ok__law_put_join T) (hr.mono (by decide)) rfl T.g__law_put_join T.F__law_put_join.kp (b__law_put_join T) .nil pass0 (pa_cons (pv 4) (pa_cons (pv 5) (pa_cons (pv 1) pa_nil))))))
    pss_nil)))
    (pss_one (ps_ret (pe_callTy cr_tup rfl T.z_tuple boot_tuple (pa_cons (pv 4) pa_nil))))))))
    , ?_⟩
    refine ⟨_, rfl, c, rfl, fun H1 dp s1 hdp => ?_⟩
    refine ⟨one_line, fun t1 h1 => ⟨one_line, fun p hp => ⟨Nat.zero_le _, fun t2 h2 => ⟨Nat.zero_le _, fun t3 h3 => ⟨two_line, fun t4 h4 => ⟨one_line, fun q0 hq0 => ⟨_, _, rfl, ?_⟩⟩⟩⟩⟩⟩⟩
    have a1 := same_new (o := .tup [.str "empty"]) h1
    have a2 := same_new (o := .lst [.ref t1]) hp
    have a3 := same_new (o := .tup []) h2
    have a4 := same_new (o := .tup []) h3
    have a5 := same_new (o := .tup [.ref t2, .ref t3]) h4
    have a6 := same_new (o := .lst [.ref t4]) hq0
    have A26 := a2.trans (a3.trans (a4.trans (a5.trans a6)))
    have A36 := a3.trans (a4.trans (a5.trans a6))
    have A16 := a1.trans A26
    have npq : p ≠ q0 := ne_of_none ((a3.trans (a4.trans a5)) _ _ upd_same) hq0
    have hp0 : H1 p = none := (upd_none hp).2
    have hq00 : H1 q0 = none := (A16.free (H := H1) (l := q0) |> fun _ => by
      exact (upd_none (upd_none (upd_none (upd_none (upd_none hq0).2).2).2).2).2)
    have dp6 := A16 _ _ hdp
    have ls0 : LD _ p ((([.empty], [([], [])]) : SWM.LS).1.map dS) := ⟨[.ref t1], A36 _ _ upd_same, .cons (TD.ofStep (s := .empty) (A26 _ _ upd_same)) .nil⟩
    have lq0 : LD _ q0 ((([.empty], [([], [])]) : SWM.LS).2.map dF) := ⟨[.ref t4], upd_same, .cons (TD.frm (f := ([], [])) (a6 _ _ upd_same) (.tup ((a4.trans (a5.trans a6)) _ _ upd_same) .nil) (.tup ((a5.trans a6) _ _ upd_same) .nil)) .nil⟩
    generalize hG : upd (upd (upd (upd (upd (upd H1 t1 (.tup [.str "empty"])) p (.lst [.ref t1])) t2 (.tup [])) t3 (.tup [])) t4 (.tup [.ref t2, .ref t3])) q0 (.lst [.ref t4]) = H6 at *
    have hdl := digs_len c
    have hd0 : ((digs c).map vN)[0]? = some (vN ((digs c).headD 0)) := by
      cases hh : digs c with
      | nil => rw [hh] at hdl; simp at hdl
      | cons x r => rfl
    have eup : (2 : Int) + (((digs c).headD 0 : Nat) : Int).fmod 28 = ((2 + (digs c).headD 0 % 28 : Nat) : Int) := by
      rw [Int.fmod_eq_emod_of_nonneg _ (by decide)]
      omega
    refine ⟨_, rfl, _, rfl, _, rfl, _, _, _, _, rfl, rfl, .inl dp6, atN (j := 0) rfl hd0, _, rfl, _, _, rfl, rfl, (show (28 : Int) ≠ 0 by decide), _, _, rfl, rfl, _, rfl, _, _, rfl, dp6, fun r hr => ?_⟩
    rw [cut_mid (i := 1) _ 1 (2 + (digs c).headD 0 % 28) rfl eup]
    have edr : (((digs c).map vN).drop 1).take (2 + (digs c).headD 0 % 28 - 1) = (SWM.drawnOf (digs c)).map vN := by
      unfold SWM.drawnOf
      rw [show 2 + (digs c).headD 0 % 28 - 1 = 1 + (digs c).headD 0 % 28 by omega, List.map_take, List.map_drop]
    rw [edr]
    have s7 := same_new (o := .lst ((SWM.drawnOf (digs c)).map vN)) hr
    have rp : r ≠ p := by
      obtain ⟨vs, h, _⟩ := ls0
      exact (ne_of_none h hr).symm
    have rq : r ≠ q0 := by
      obtain ⟨vs, h, _⟩ := lq0
      exact (ne_of_none h hr).symm
    refine ⟨r, rfl, ⟨_, SqL.of upd_same⟩, for_it (walk_list (xs := (SWM.drawnOf (digs c)).map vN)) (fun i σ H' => ∃ o6 o7 o8 o9 : Option V, σ = [some (.int c), some (vN k), some (.int 28), some (.ref dp), some (.ref p), some (.ref q0), o6, o7, o8, o9, none] ∧ Mv [p, q0] (upd H6 r (.lst ((SWM.drawnOf (digs c)).map vN))) H' ∧
        LD H' p ((((SWM.drawnOf (digs c)).take i).foldl (SWM.putD k) ([.empty], [([], [])])).1.map dS) ∧ LD H' q0 ((((SWM.drawnOf (digs c)).take i).foldl (SWM.putD k) ([.empty], [([], [])])).2.map dF))
      ⟨none, none, none, none, rfl, Mv.refl _ _, LD.same ls0 s7, LD.same lq0 s7⟩ (fun i σ H' _ ⟨_, _, _, _, _, mv, _⟩ => SqL.of (mv.1 _ _ (by simp [rp, rq]) upd_same)) ?_ ?_⟩
    · rintro i x σ H8 H8' hi ⟨o6, o7, o8, o9, rfl, mv, lp, lq⟩ ⟨rfl, hx⟩
      obtain ⟨d, hd, rfl⟩ := map_at hx
      have lok := SWM.lok_draw hk (digs c) i
      have e4 : (SWM.drawnOf (digs c)).take (i + 1) = (SWM.drawnOf (digs c)).take i ++ [d] := by rw [List.take_add_one, hd]; rfl
      rw [e4, List.foldl_append]
      generalize ((SWM.drawnOf (digs c)).take i).foldl (SWM.putD k) ([.empty], [([], [])]) = st at lp lq lok
      obtain ⟨z1, z2⟩ := lok.sz
      have z3 := lok.len
      have z4 := lok.lo
      have ep : [d].foldl (SWM.putD k) st = SWM.putD k st d := rfl
      rw [ep]
      refine ⟨_, rfl, _, _, rfl, rfl, (show (8 : Int) ≠ 0 by decide), _, rfl, _, _, rfl, rfl, ⟨by decide, by decide⟩, _, rfl, _, _, rfl, rfl, _, _, rfl, rfl, (show ((k : Int) + 1) ≠ 0 by omega), _, rfl, _, _, rfl, rfl, ⟨by decide, by decide⟩, _, rfl, _, _, rfl, rfl, _, _, rfl, rfl, (show ((k : Int) + 1) ≠ 0 by omega), vN (d % 8), vN (d / 8 % (k + 1)), vN (d / 72 % (k + 1)), ?_, ?_⟩
      · show [V.int ((d : Int).fmod 8), V.int (((d : Int).fdiv ((8 : Nat) : Int)).fmod ((k : Int) + 1)), V.int (((d : Int).fdiv ((72 : Nat) : Int)).fmod ((k : Int) + 1))] = _
        rw [m_8, m_i, m_i]; rfl
      have hlq := id lq
      obtain ⟨qv, hq1, hq2⟩ := hlq
      have hql : qv.length = st.2.length := by rw [hq2.length]; simp
      -- a step is put
      have fin : ∀ H', Mv [p, q0] H8' H' → LD H' p ((SWM.putD k st d).1.map dS) → LD H' q0 ((SWM.putD k st d).2.map dF) → ∃ o6 o7 o8 o9 : Option V, [some (V.int c), some (vN k), some (V.int 28), some (V.ref dp), some (V.ref p), some (V.ref q0), some (vN d), some (vN (d % 8)), some (vN (d / 8 % (k + 1))), some (vN (d / 72 % (k + 1))), none] = [some (.int c), some (vN k), some (.int 28), some (.ref dp), some (.ref p), some (.ref q0), o6, o7, o8, o9, none] ∧ Mv [p, q0] (upd H6 r (.lst ((SWM.drawnOf (digs c)).map vN))) H' ∧ LD H' p ((SWM.putD k st d).1.map dS) ∧ LD H' q0 ((SWM.putD k st d).2.map dF) := fun H' m a b => ⟨_, _, _, _, rfl, mv.trans m, a, b⟩
      refine ⟨_, rfl, rfl, _, rfl, ?_⟩
      by_cases c0 : d % 8 = 0
      · refine ifT (veq (by omega)) ?_
        refine ⟨_, rfl, _, _, rfl, .inl hq1, _, _, rfl, rfl, _, rfl, ?_⟩
        by_cases c1 : st.2.length < 3
        · refine ifT (decide_eq_true (by omega)) ?_
          have epd : SWM.putD k st d = SWM.putS st .empty := by unfold SWM.putD; rw [if_pos ⟨c0, c1⟩]
          refine ⟨_, rfl, _, rfl, one_line, fun t ht => ?_⟩
          have s2 := same_new (o := .tup [.str "empty"]) ht
          refine ⟨p, q0, _, .empty, st, rfl, npq, LD.same lp s2, LD.same lq s2, TD.ofStep (s := .empty) upd_same, by omega, by omega, by omega, fun H3 m3 hp3 hq3 => ?_⟩
          exact fin H3 ((Same.mv s2).trans m3) (by rw [epd]; exact hp3) (by rw [epd]; exact hq3)
        · refine ifF (decide_eq_false (by omega)) ?_
          refine ⟨_, rfl, _, _, rfl, rfl, _, rfl, ifT (decide_eq_true (by omega)) ?_⟩
          have epd : SWM.putD k st d = SWM.putS st (.new (d / 8 % (k + 1))) := by unfold SWM.putD; rw [if_neg (fun z => c1 z.2), if_pos (by omega)]
          refine ⟨_, rfl, _, rfl, _, rfl, two_line, fun t ht => ?_⟩
          have s2 := same_new (o := .tup [.str "new", vN (d / 8 % (k + 1))]) ht
          refine ⟨p, q0, _, (.new (d / 8 % (k + 1))), st, rfl, npq, LD.same lp s2, LD.same lq s2, TD.ofStep (s := (.new (d / 8 % (k + 1)))) upd_same, by omega, by omega, by omega, fun H3 m3 hp3 hq3 => ?_⟩
          exact fin H3 ((Same.mv s2).trans m3) (by rw [epd]; exact hp3) (by rw [epd]; exact hq3)
      · refine ifF (vne (by omega)) ?_
        refine ⟨_, rfl, _, _, rfl, rfl, _, rfl, ?_⟩
        by_cases c2 : d % 8 < 4
        · refine ifT (decide_eq_true (by omega)) ?_
          have epd : SWM.putD k st d = SWM.putS st (.new (d / 8 % (k + 1))) := by unfold SWM.putD; rw [if_neg (fun z => c0 z.1), if_pos c2]
          refine ⟨_, rfl, _, rfl, _, rfl, two_line, fun t ht => ?_⟩
          have s2 := same_new (o := .tup [.str "new", vN (d / 8 % (k + 1))]) ht
          refine ⟨p, q0, _, (.new (d / 8 % (k + 1))), st, rfl, npq, LD.same lp s2, LD.same lq s2, TD.ofStep (s := (.new (d / 8 % (k + 1)))) upd_same, by omega, by omega, by omega, fun H3 m3 hp3 hq3 => ?_⟩
          exact fin H3 ((Same.mv s2).trans m3) (by rw [epd]; exact hp3) (by rw [epd]; exact hq3)
        · refine ifF (decide_eq_false (by omega)) ?_
          refine ⟨_, rfl, _, _, rfl, rfl, _, rfl, ?_⟩
          by_cases c3 : d % 8 < 6
          · refine ifT (decide_eq_true (by omega)) ?_
            have epd : SWM.putD k st d = SWM.putS st (.edge (min (d / 8 % (k + 1)) (d / 72 % (k + 1))) (max (d / 8 % (k + 1)) (d / 72 % (k + 1)))) := by unfold SWM.putD; rw [if_neg (fun z => c0 z.1), if_neg c2, if_pos c3]
            have emin : ∀ a b : Nat, V.int (if (b : Int) < (a : Int) then (b : Int) else (a : Int)) = vN (min a b) := fun a b => by
              unfold vN; congr 1; split <;> omega
            have emax : ∀ a b : Nat, V.int (if (b : Int) > (a : Int) then (b : Int) else (a : Int)) = vN (max a b) := fun a b => by
              unfold vN; congr 1; split <;> omega
            refine ⟨_, rfl, _, rfl, _, rfl, _, rfl, _, _, rfl, _, rfl, _, rfl, _, _, rfl, three_line, fun t ht => ?_⟩
            have s2 := same_new (o := .tup [.str "edge", V.int (if ((d / 72 % (k + 1) : Nat) : Int) < ((d / 8 % (k + 1) : Nat) : Int) then ((d / 72 % (k + 1) : Nat) : Int) else ((d / 8 % (k + 1) : Nat) : Int)), V.int (if ((d / 72 % (k + 1) : Nat) : Int) > ((d / 8 % (k + 1) : Nat) : Int) then ((d / 72 % (k + 1) : Nat) : Int) else ((d / 8 % (k + 1) : Nat) : Int))]) ht
            refine ⟨p, q0, _, (.edge (min (d / 8 % (k + 1)) (d / 72 % (k + 1))) (max (d / 8 % (k + 1)) (d / 72 % (k + 1)))), st, rfl, npq, LD.same lp s2, LD.same lq s2, TD.ofStep (s := (.edge (min (d / 8 % (k + 1)) (d / 72 % (k + 1))) (max (d / 8 % (k + 1)) (d / 72 % (k + 1))))) (by rw [upd_same, emin, emax]; rfl), by omega, by omega, by omega, fun H3 m3 hp3 hq3 => ?_⟩
            exact fin H3 ((Same.mv s2).trans m3) (by rw [epd]; exact hp3) (by rw [epd]; exact hq3)
          · refine ifF (decide_eq_false (by omega)) ?_
            refine ⟨_, rfl, rfl, _, rfl, ?_⟩
            by_cases c4 : d % 8 = 6
            · refine ifT (veq (by omega)) ?_
              have epd : SWM.putD k st d = SWM.putS st (.forget (d / 8 % (k + 1))) := by unfold SWM.putD; rw [if_neg (fun z => c0 z.1), if_neg c2, if_neg c3, if_pos c4]
              refine ⟨_, rfl, _, rfl, _, rfl, two_line, fun t ht => ?_⟩
              have s2 := same_new (o := .tup [.str "forget", vN (d / 8 % (k + 1))]) ht
              refine ⟨p, q0, _, (.forget (d / 8 % (k + 1))), st, rfl, npq, LD.same lp s2, LD.same lq s2, TD.ofStep (s := (.forget (d / 8 % (k + 1)))) upd_same, by omega, by omega, by omega, fun H3 m3 hp3 hq3 => ?_⟩
              exact fin H3 ((Same.mv s2).trans m3) (by rw [epd]; exact hp3) (by rw [epd]; exact hq3)
            · refine ifF (vne (by omega)) ?_
              refine ⟨_, rfl, _, _, rfl, .inl hq1, _, _, rfl, rfl, _, rfl, ?_⟩
              by_cases c5 : 1 < st.2.length
              · refine ifT (decide_eq_true (by omega)) ?_
                have epd : SWM.putD k st d = SWM.putJ k st := by unfold SWM.putD; rw [if_neg (fun z => c0 z.1), if_neg c2, if_neg c3, if_neg c4, if_pos c5]
                have hlow := SWM.lowF_le lok (by omega)
                refine ⟨_, rfl, _, rfl, _, rfl, p, q0, k, st, rfl, npq, lp, lq, by unfold phi; omega, by omega, by omega, by omega, fun H3 m3 hp3 hq3 => ?_⟩
                exact fin H3 m3 (by rw [epd]; exact hp3) (by rw [epd]; exact hq3)
              · refine ifF (decide_eq_false (by omega)) ?_
                have epd : SWM.putD k st d = st := by unfold SWM.putD; rw [if_neg (fun z => c0 z.1), if_neg c2, if_neg c3, if_neg c4, if_neg c5]
                exact fin _ (Mv.refl _ _) (by rw [epd]; exact lp) (by rw [epd]; exact lq)
    · rintro σ H8 ⟨o6, o7, o8, o9, rfl, mv, lp, lq⟩
      rw [show ((SWM.drawnOf (digs c)).map vN).length = (SWM.drawnOf (digs c)).length by simp, List.take_length] at lp lq
      refine ⟨_, rfl, by decide, by decide, for_it walk_range (fun i σ H' => ∃ o10 : Option V, σ = [some (.int c), some (vN k), some (.int 28), some (.ref dp), some (.ref p), some (.ref q0), o6, o7, o8, o9, o10] ∧ Mv [p, q0] (upd H6 r (.lst ((SWM.drawnOf (digs c)).map vN))) H' ∧
          LD H' p ((SWM.finN k ((SWM.drawnOf (digs c)).foldl (SWM.putD k) ([.empty], [([], [])])) i).1.map dS) ∧ LD H' q0 ((SWM.finN k ((SWM.drawnOf (digs c)).foldl (SWM.putD k) ([.empty], [([], [])])) i).2.map dF))
        ⟨none, rfl, mv, lp, lq⟩ (fun i σ H' _ _ => True.intro) ?_ ?_⟩
      · rintro i x σ H9 H9' hi ⟨o10, rfl, mv9, lp9, lq9⟩ ⟨rfl, rfl⟩
        have hi3 : i < 3 := hi
        have lok := SWM.lok_finN hk (digs c) i (by omega)
        have esc : SWM.finN k ((SWM.drawnOf (digs c)).foldl (SWM.putD k) ([.empty], [([], [])])) (i + 1) = SWM.finJ k (SWM.finN k ((SWM.drawnOf (digs c)).foldl (SWM.putD k) ([.empty], [([], [])])) i) := rfl
        rw [esc]
        generalize SWM.finN k ((SWM.drawnOf (digs c)).foldl (SWM.putD k) ([.empty], [([], [])])) i = st at lp9 lq9 lok
        obtain ⟨z1, z2⟩ := lok.sz
        have z3 := lok.len
        have z4 := lok.lo
        have hlq := id lq9
        obtain ⟨qv, hq1, hq2⟩ := hlq
        have hql : qv.length = st.2.length := by rw [hq2.length]; simp
        refine ⟨_, rfl, _, _, rfl, .inl hq1, _, _, rfl, rfl, _, rfl, ?_⟩
        by_cases c5 : 1 < st.2.length
        · refine ifT (decide_eq_true (by omega)) ?_
          have epd : SWM.finJ k st = SWM.putJ k st := by unfold SWM.finJ; rw [if_pos c5]
          have hlow := SWM.lowF_le lok (by omega)
          refine ⟨_, rfl, _, rfl, _, rfl, p, q0, k, st, rfl, npq, lp9, lq9, by unfold phi; omega, by omega, by omega, by omega, fun H3 m3 hp3 hq3 => ?_⟩
          exact ⟨_, rfl, mv9.trans m3, by rw [epd]; exact hp3, by rw [epd]; exact hq3⟩
        · refine ifF (decide_eq_false (by omega)) ?_
          have epd : SWM.finJ k st = st := by unfold SWM.finJ; rw [if_neg c5]
          exact ⟨_, rfl, mv9, by rw [epd]; exact lp9, by rw [epd]; exact lq9⟩
      · rintro σ H9 ⟨o10, rfl, mv9, lp9, lq9⟩
        obtain ⟨pv, hp1, hp2⟩ := lp9
        refine ⟨_, rfl, _, _, rfl, hp1, fun l hl => ?_⟩
        refine q _ _ ?_ ?_
        · have m : Same H1 (upd H6 r (.lst ((SWM.drawnOf (digs c)).map vN))) := by rw [← hG] at s7 ⊢; exact (hG ▸ A16).trans s7
          exact s1.trans ((mv9.same m fun a ha => by
            rcases List.mem_cons.mp ha with z | z
            · rw [z]; exact hp0
            · rw [List.mem_singleton.mp z]; exact hq00).trans (same_new hl))
        · exact .tup upd_same (hp2.mono (Same.t (same_new hl)))
end
end SW


set_option maxRecDepth 100000
set_option maxHeartbeats 2000000
/-! sorted(vertices, key=lambda vertex: self._labels[vertex]) over a list or a tuple of numbers. -/
namespace SW
open PySem PySem.Spec PyProof.Rows L2
theorem le_byL (L : Nat → Nat) : PySem.W.dataLe false (fun x => dN (L x)) = fun a b => SWM.leN (L a) (L b) := by
  have e := PySem.W.dataLe_int (fun n : Nat => (L n : Int))
  show PySem.W.dataLe false (fun b : Nat => PyData.int (L b : Int)) = _
  rw [e]
  funext a b
  unfold SWM.leN
  by_cases h : L a ≤ L b
  · rw [decide_eq_true h, decide_eq_true (by omega)]
  · rw [decide_eq_false h, decide_eq_false (by omega)]
section
variable {X : Cx} {pins : List (Addr × Obj)} {σ : L2.St} {H : Hp} {s : Shared}
/-- a call of the key at any later heap -/
def KeyCall (X : Cx) (A : Around) (s : Shared) (f : Addr) (L : Nat → Nat) (l : List Nat) : Prop :=
  ∀ (v : Value) (x : Nat), RelV (vN x) v → x ∈ l → ∀ (h : Heap) (tk : Nat), (∀ b o, s.heap.get? b = some o → h.get? b = some o) →
    wpAny (model X.prog X.w) A (call (.ref f) [v]) (PySem.W.KeyPure (dN (L x)) { s with heap := h, toks := tk }) (fun _ _ => False) { s with heap := h, toks := tk }
theorem sortKey_core {A : Around} {acc : List Value} {bs : List Nat} {L : Nat → Nat} {f : Addr} {Q : V → Hp → Prop} {E : Value → Shared → Prop} (I : Inv X pins σ H s) (e : PySem.W.EachIs (RD H dN) acc bs) (hL : bs.length ≤ sizeLine) (hu : A.units + 65 < cLine)
    (turn : KeyCall X A.in1 s f L bs) (q : ∀ p, H p = none → Q (.ref p) (upd H p (.lst ((SWM.byL L bs).map vN)))) :
    wpAny (model X.prog X.w) A (newList acc >>= fun l => holding [l] (call (.builtin "list.sort") [l] [(Str.ofString "key", .ref f)]) >>= fun _ => ret l) (fun fin s' => ∃ v, fin = .done (.ret v) ∧ ∃ x H', Inv X pins σ H' s' ∧ RelV x v ∧ Q x H') E s := by
  have hal2 : acc.length = bs.length := e.length
  refine wpAny_bind (wpAny_newList ?_ (by rw [hal2]; exact hL))
  have hoL : (s.heap.push (seqObj "list" acc.toArray 0)).get? s.heap.objs.size = some (seqObj "list" acc.toArray 0) := Heap.get?_push_size _ rfl
  have kp0 : ∀ b o, s.heap.get? b = some o → (s.heap.push (seqObj "list" acc.toArray 0)).get? b = some o := fun b o e => Heap.get?_push_of_some _ e
  show wpAny _ _ _ _ _ { s with heap := s.heap.push (seqObj "list" acc.toArray 0) }
  refine wpAny_bind (wpAny_holding (PySem.W.list_sort_key_data (s := { s with heap := s.heap.push (seqObj "list" acc.toArray 0) }) (vs := acc) (bs := bs) (R := RD H dN) (b := false) (fun x => dN (L x)) hoL e
    (PySem.W.AllAlike.of fun b b' => by simp [dN, PySem.W.alike]) (PySem.W.Sortable.others fun b => ⟨by simp [dN], fun xs => by simp [dN]⟩) hL (fun b _ => by rw [Nat.le_zero.mp (ni_N _).2]; omega) (PyProof.Rows.ksk_l1 _ _) (PyProof.Rows.ksk_t1 _ _)
    (fun v x hv hx h tk kp => ?_) fun out c h' tk kp hD h1 h2 => ?_))
  · obtain ⟨w, r1, r2⟩ := hv
    have e1 : w = vN x := r2.intI
    subst e1
    refine turn v x r1 hx h tk fun b o z => ?_
    exact kp b o (Nat.ne_of_lt (Heap.lt_size z)) (kp0 b o z)
  · rw [le_byL] at h2
    obtain ⟨ys, r1, r2⟩ := rd_each h2
    have ey : ys = (SWM.byL L bs).map vN := r2.nats
    have hlen : ys.length ≤ sizeLine := by rw [r1.length, h1]; exact hL
    rw [ey] at r1 hlen
    refine wpAny_pure ⟨_, rfl, .ref s.heap.objs.size, upd H s.heap.objs.size (.lst ((SWM.byL L bs).map vN)), I.laid (t' := tk) (fun b u z => ?_) (Nat.le_refl _) (show ObjOk X.prog X.w _ _ _ (.lst ((SWM.byL L bs).map vN)) from ⟨hlen, out, c, r1, hD⟩), rfl, q _ (I.hok.fresh (Nat.le_refl _))⟩
    exact kp b u (Nat.ne_of_lt (Heap.lt_size z)) (kp0 b u z)
/-- sorted(a, key=f) -/
theorem sorted_key_run {a f : Addr} {l : List Nat} {L : Nat → Nat} {Q : V → Hp → Prop} (hu : X.A.units + 67 < cLine) (I : Inv X pins σ H s) (hs : Sq H a (l.map vN)) (turn : KeyCall X X.A.in1.in1 s f L l)
    (q : ∀ p, H p = none → Q (.ref p) (upd H p (.lst ((SWM.byL L l).map vN)))) : wpAny (model X.prog X.w) X.A (call (.builtin "sorted") [.ref a] [(Str.ofString "key", .ref f)]) (EP X pins σ Q) X.xe s := by
  refine PyProof.Rows.call_function_entry_kw PyProof.Rows.kind_sorted PyProof.Rows.plain_sorted PyProof.Rows.entry_sorted (PyProof.Rows.ksk_s1 _ _) ?_
  unfold Builtin.«sorted»
  refine wpAny_bind (m := checkCount "sorted" 1 1 _) (wpAny_pure ?_)
  have fin : ∀ (o : Obj) (its : List Value) (n : Nat) (T : String), (T = "list" ∨ T = "tuple") → s.heap.get? a = some o → o.cls = .type T → o.data = .seq its.toArray n → Vals (l.map vN) its → (l.map vN).length ≤ sizeLine →
      wpAny (model X.prog X.w) X.A.in1 (collect (.ref a) >>= fun l0 => newList l0 >>= fun l => holding [l] (call (.builtin "list.sort") [l] [(Str.ofString "key", .ref f)]) >>= fun _ => ret l) (fun fin s' => ∃ v, fin = .done (.ret v) ∧ ∃ x H', Inv X pins σ H' s' ∧ RelV x v ∧ Q x H') X.xe s := by
    intro o its n T hT ho hc hd2 rv hz
    refine wpAny_bind (wpAny_collect_seq a hT ho hc hd2 (fun h' hk2 => ?_) (by rw [List.size_toArray, ← rv.length]; exact hz))
    have I1 : Inv X pins σ H { s with heap := h' } := I.kept (t' := s.toks) hk2
    have e1 : PySem.W.EachIs (RD H dN) its.toArray.toList l := by
      have e0 := each_rd (H := H) (enc := dN) rv (TDs.ofNats l)
      simpa using e0
    exact sortKey_core (L := L) I1 e1 (by rw [List.length_map] at hz; exact hz) (by show X.A.units + 1 + 65 < cLine; omega) (fun v x r hx h tk kp => turn v x r hx h tk fun b o z => kp b o (hk2 b o z)) q
  rcases hs with h | h
  · obtain ⟨its, rv, ⟨o, n, ho, hc, hdn, hdt⟩, hz⟩ := I.list (SqL.of h)
    exact fin o its n "list" (.inl rfl) ho hc hdt rv hz
  · obtain ⟨its, rv, ⟨o, ho, hc, n, hdt⟩, hz⟩ := I.tuple (SqT.of h)
    exact fin o its n "tuple" (.inr rfl) ho hc hdt rv hz
/-! ### the lambda's call -/
/-- the lambda's body and names -/
structure LamB (params : Arguments) (body : Expr) (scope : Scope) : Prop where
  bd : ∃ p1 p2 p3 p4, body = .Subscript (.Attribute (.Name "self" p1) "_labels" p2) (.Name "vertex" p3) p4
  bind : ∀ (q : Str) (cl : List (Str × Addr)) (pm cv ctv v : Value), bindArgs (PySem.W.kla_fn "<lambda>" q params body scope cl pm cv ctv) ⟨[v], []⟩ = pure [(("vertex" : Str), v)]
  kind : scope.kind = .function
  co : scope.isCoroutine = false
  gen : scope.isGenerator = false
  cells : ∀ y ∈ scope.names, y.2 ≠ .cell
  loc : scope.names.lookup ("vertex" : Str) = some .local
  fre : scope.names.lookup ("self" : Str) = some .free
theorem lam_call {A : Around} {C p dx d f c' cS : Addr} {fs : List (Str × V)} {m : List (Nat × Nat)} {q : Str} {params : Arguments} {body : Expr} {scope : Scope} {cl : List (Str × Addr)} {pm ctv v : Value} {x : Nat} {h : Heap} {tk : Nat} (I : Inv X pins σ H s) (B : LamB params body scope)
    (hf : s.heap.get? f = some (PySem.W.kla_obj "<lambda>" q params body scope cl pm c' ctv)) (hco : H c' = some (LamX.CodeO c' q)) (hcl : cl.lookup ("self" : Str) = some cS) (hcell : s.heap.IsCell cS (some (.ref p)))
    (hp : H p = some (.ins C dx fs)) (cls : Cls X.K C) (na : NoAttr X.K C "_labels") (hl : fs.lookup ("_labels" : Str) = some (.ref d)) (hd : H d = some (.dK (kN m))) (hx : x ∈ m.map (·.1)) (hv : RelV (vN x) v) (hdep : A.depth < recursionLimit) (kp : ∀ b o, s.heap.get? b = some o → h.get? b = some o) :
    wpAny (model X.prog X.w) A (call (.ref f) [v]) (PySem.W.KeyPure (dN (SWM.lkD m x)) { s with heap := h, toks := tk }) (fun _ _ => False) { s with heap := h, toks := tk } := by
  have I1 : Inv X pins σ H { s with heap := h, toks := tk } := I.kept kp
  obtain ⟨⟨oc, vs, t, hoc, hdc, hvc⟩, _, _⟩ := I1.hok c' _ hco
  refine wpAny_call (PySem.W.kla_callFunE hdep (kp _ _ hf) rfl B.co B.gen rfl ⟨c', oc, vs, t, rfl, hoc, hdc, hvc⟩ ?_)
  rw [B.bind]
  refine wpAny_pure (wpAny_newFunctionEnv B.cells (fun y hy => by rw [List.mem_singleton.mp hy]; exact B.loc) (fun h₁ hns hsb => ⟨I1.nolimit.fresh _ hsb, ?_⟩) B.kind)
  have kp1 : ∀ b o, h.get? b = some o → h₁.get? b = some o := fun b o e => hsb.extBut b o (Nat.ne_of_lt (Heap.lt_size e)) (Heap.get?_push_of_some _ e)
  have I2 : Inv X pins σ H { s with heap := h₁, toks := tk + 1 } := I.kept fun b o z => kp1 b o (kp b o z)
  obtain ⟨p1, p2, p3, p4, eb⟩ := B.bd
  show codeAny _ _ (.expr body (PySem.W.envX q scope h.objs.size f (.ref c') cl)) _ _
  rw [eb]
  refine PySem.W.kla_codeExpr ?_
  show wpAny _ _ _ _ _ { s with heap := h₁, toks := tk + 1 }
  refine subD_of PySem.F.slot_dict_getitem.lookup (fun _ _ => rfl) ?_
  refine attr_of rfl ?_
  have cell2 : h₁.IsCell cS (some (.ref p)) := by
    obtain ⟨o, ho, hdt⟩ := hcell
    exact ⟨o, kp1 _ _ (kp _ _ ho), hdt⟩
  refine wpAny_Name (wpAny_loadName_free B.kind B.fre hcl cell2 ?_)
  obtain ⟨mA, O, r, _, _, _⟩ := ins_get I2.hok hp
  obtain ⟨u, hu, ru⟩ := RelO.some_of (v := .ref d) (o := mA "_labels") (by rw [← hl]; exact r _)
  refine get_map I2.kIn O (cls.get _) cls.hd na hu (handed_of ru) ?_
  obtain rfl : u = Value.ref d := ru
  have I3 := I2.tok (tk + 1 + 1)
  refine wpAny_Name (wpAny_loadName_local B.kind B.loc hns rfl ?_)
  refine ⟨dict_typeIs I3 (dget (.inl hd) hx), ?_⟩
  obtain ⟨z, hd3, ws, rel, dd⟩ := dk_rd I3.hok (.inl hd)
  obtain ⟨w', hw, rw'⟩ := RelO.some_of (v := vN (SWM.lkD m x)) (o := valueAt ws (kI x)) (by
    have e := rel.val (kI x)
    rw [valV_kN, lk_some hx] at e
    exact e)
  refine wpAny_getItem_of (kV_is (k := kI x) hv) dd.mapOf hw ?_
  refine ⟨h₁, _, rfl, kp1, ?_⟩
  obtain ⟨t3, rfl⟩ := rw'
  exact Reads.int _ _
end
def tSortL (T : List (Addr × Str)) (C : Addr) (te : TE) (i : Nat) : TE := fun σ H Q => te σ H fun v H1 => ∃ (a p dx d : Addr) (fs : List (Str × V)) (l : List Nat) (m : List (Nat × Nat)), v = .ref a ∧ Sq H1 a (l.map vN) ∧ LamX.Tabs T H1 ∧ σ[i]? = some (some (.ref p)) ∧ H1 p = some (.ins C dx fs) ∧
  fs.lookup ("_labels" : Str) = some (.ref d) ∧ H1 d = some (.dK (kN m)) ∧ (∀ x ∈ l, x ∈ m.map (·.1)) ∧ ∀ H2, LamX.ExtN H1 H2 → LamX.Tabs T H2 → ∀ q, H2 q = none → Q (.ref q) (upd H2 q (.lst ((SWM.byL (SWM.lkD m) l).map vN)))
theorem notTbl_ins {C dx : Addr} {fs : List (Str × V)} (ps : Array Value) : HO.ins C dx fs ≠ .tbl ps := by intro z; cases z
theorem Sq.ext {H H' : Hp} {a : Addr} {xs : List V} (h : Sq H a xs) (e : LamX.ExtN H H') : Sq H' a xs := h.elim (fun z => .inl (e _ _ z (by intro ps z; cases z))) fun z => .inr (e _ _ z (by intro ps z; cases z))
theorem pe_sortL {X : Cx} {T : List (Addr × Str)} {C c P : Addr} {e : Expr} {te : TE} {i : Nat} {params : Arguments} {body : Expr} {scope : Scope} {p0 lpos kpos pos : Pos} (hg : Gl X "sorted") (hm : X.mg "sorted" = none) (ha : PA X [e] (tCons te tNil)) (TB : LamX.TabB X.base X.mg c P) (hcode : X.env.code = .ref c)
    (hmT : (P, X.env.qual ++ "<lambda>") ∈ T) (hU : ∀ p ∈ T, p.1 = P → p.2 = X.env.qual ++ "<lambda>") (B : LamB params body scope) (hdef : defaultsOf params X.env = ([], [])) (hN : X.N[i]? = some "self") (hS : X.env.scope.names.lookup ("self" : Str) = some .cell)
    (hfree : ∀ y ∈ scope.names, y.2 = .free → y.1 = "self") (cls : Cls X.K C) (na : NoAttr X.K C "_labels") (hr : Room 1 X.A)
    (hb1 : backTo pos (starEach [e] X.env) = (false, eval e X.env) :: backTo pos (starEach [] X.env) := by rfl) (hb2 : (backTo pos (starEach [e] X.env)).any (·.1) = false := by rfl) :
    PE X (.Call (.Name "sorted" p0) [e] [⟨some "key", .Lambda params body scope lpos, kpos⟩] pos) (tSortL T C te i) := by
  refine ⟨fun pins s σ H Q I h => ?_⟩
  refine wpAny_Call_Name_kw (ld_blt I hg hm boot_sorted ?_)
  refine PyProof.Rows.callWith_kw (thn (ha.run pos pins s σ H (fun vs H1 => match vs with
    | [v] => (∃ (a p dx d : Addr) (fs : List (Str × V)) (l : List Nat) (m : List (Nat × Nat)), v = .ref a ∧ Sq H1 a (l.map vN) ∧ LamX.Tabs T H1 ∧ σ[i]? = some (some (.ref p)) ∧ H1 p = some (.ins C dx fs) ∧
      fs.lookup ("_labels" : Str) = some (.ref d) ∧ H1 d = some (.dK (kN m)) ∧ (∀ x ∈ l, x ∈ m.map (·.1)) ∧ ∀ H2, LamX.ExtN H1 H2 → LamX.Tabs T H2 → ∀ q, H2 q = none → Q (.ref q) (upd H2 q (.lst ((SWM.byL (SWM.lkD m) l).map vN))))
    | _ => False) I h) fun us s1 ⟨vs, H1, I1, r1, q1⟩ => ?_) hb1 hb2
  cases r1 with
  | nil => exact q1.elim
  | @cons v u vs us r r2 =>
    cases r2 with
    | cons _ _ => exact q1.elim
    | nil =>
      obtain ⟨a, p, dx, d, fs, l, m, rfl, hq, hT, hs, hp, hl, hd, hx, q⟩ := q1
      obtain rfl : u = Value.ref a := r
      show wpAny _ _ (evalAll ((do let v ← eval (.Lambda params body scope lpos) X.env; standAt pos; pure v) :: [])) _ _ s1
      refine wpAny_evalAll_cons (wpAny_bind (LamX.lam_make2 I1 TB hcode hmT hU hT hdef (fun y hy e => ?_) fun f c' pm ctv H2 s2 I2 eN T2 hf hfn hfr hco => wpAny_bind (wpAny_standAt (wpAny_pure (wpAny_evalAll_nil ?_)))))
      · rw [hfree y hy e]
        exact I1.ok.has _ (.inl hS)
      · show wpAny _ _ (call (.builtin "sorted") [.ref a] [(Str.ofString "key", .ref f)]) _ _ _
        obtain ⟨mm, hns, hlo⟩ := I2.loc
        obtain ⟨u2, ru2, lk2⟩ := hlo i "self" (.ref p) hN hs (.inr (.inl hS))
        obtain rfl : u2 = Value.ref p := ru2
        rcases lk2 with ⟨k', _⟩ | ⟨_, cS, hc, hcell⟩
        · have k2 : X.env.scope.names.lookup ("self" : Str) = some .local := k'
          rw [hS] at k2
          cases k2
        · have hcl : (cloFrom X.env.cells scope.names []).lookup ("self" : Str) = some cS := by
            have hy : (("self" : Str), NameKind.free) ∈ scope.names := PySem.mem_of_lookup B.fre
            obtain ⟨c2, h2⟩ := mem_lookup (cloFrom_has (cells := X.env.cells) (acc := []) hy)
            rcases cloFrom_mem (PySem.mem_of_lookup h2) with hm2 | ⟨_, h3⟩
            · cases hm2
            · rw [hc] at h3
              rw [h2, h3]; rfl
          exact sorted_key_run (L := SWM.lkD m) (by have := hr.un; omega) I2 (hq.ext eN) (fun v x rv hxl h tk kp => lam_call I2 B hf hco hcl hcell (eN _ _ hp notTbl_ins) cls na hl (eN _ _ hd (by intro ps z; cases z)) (hx x hxl) rv (by show X.A.depth < _; exact hr.depth) kp) (q H2 eN T2)
end SW


set_option maxRecDepth 100000
set_option maxHeartbeats 2000000
/-! Rows in the heap; frames where tables of code objects grow. -/
namespace SW
open PySem PySem.Spec PyProof.Rows L2
/-! ### frames -/
def NT (o : HO) : Prop := ∀ ps, o ≠ .tbl ps
theorem NT.lst {xs : List V} : NT (.lst xs) := fun _ z => by cases z
theorem NT.tup {xs : List V} : NT (.tup xs) := fun _ z => by cases z
theorem NT.dK {kvs : List (Key × V)} : NT (.dK kvs) := fun _ z => by cases z
theorem NT.ins {C dx : Addr} {fs : List (Str × V)} : NT (.ins C dx fs) := fun _ z => by cases z
abbrev TL (Pt : Addr) : List (Addr × Str) := [(Pt, "Rows._by_labels.<locals>.<lambda>")]
/-- all but the objects of S and the tables stay; the table of the lambda's maker is well -/
structure Fr (Pt : Addr) (S : List Addr) (H H' : Hp) : Prop where
  at_ : ∀ b o, ¬ b ∈ S → H b = some o → NT o → H' b = some o
  t : SameT H H'
  tab : LamX.Tabs (TL Pt) H'
theorem Fr.refl {Pt : Addr} {S : List Addr} {H : Hp} (t : LamX.Tabs (TL Pt) H) : Fr Pt S H H := ⟨fun _ _ _ h _ => h, SameT.refl H, t⟩
theorem Fr.trans {Pt : Addr} {S : List Addr} {H H1 H2 : Hp} (a : Fr Pt S H H1) (b : Fr Pt S H1 H2) : Fr Pt S H H2 := ⟨fun c o n h z => b.at_ c o n (a.at_ c o n h z) z, a.t.trans b.t, b.tab⟩
theorem Fr.ext {Pt : Addr} {H H' : Hp} (f : Fr Pt [] H H') : LamX.ExtN H H' := fun b o e n => f.at_ b o (by simp) e n
theorem Fr.ofExt {Pt : Addr} {S : List Addr} {H H' : Hp} (e : LamX.ExtN H H') (t : LamX.Tabs (TL Pt) H') : Fr Pt S H H' := ⟨fun b o _ h n => e b o h n, ExtN.t e, t⟩
theorem Fr.same {Pt : Addr} {S : List Addr} {H H1 H2 : Hp} (a : Fr Pt S H H1) (s : Same H1 H2) : Fr Pt S H H2 := ⟨fun c o n h z => s c o (a.at_ c o n h z), a.t.trans (Same.t s), a.tab.ext s⟩
theorem Fr.sub {Pt : Addr} {S S' : List Addr} {H H' : Hp} (a : Fr Pt S H H') (h : ∀ x ∈ S, x ∈ S') : Fr Pt S' H H' := ⟨fun c o n => a.at_ c o (fun z => n (h c z)), a.t, a.tab⟩
/-- an object that is no table, no code object, is changed: the tables stay well -/
theorem tabs_put {T : List (Addr × Str)} {H : Hp} {p : Addr} {o u : HO} (t : LamX.Tabs T H) (h : H p = some o) (n : NT o) (n2 : ∀ f, o ≠ .ext f) : LamX.Tabs T (upd H p u) := fun q hq => by
  obtain ⟨ps, h1, h2, h3⟩ := t q hq
  refine ⟨ps, by rw [upd_ne (fun z => n ps (by rw [z, h] at h1; exact Option.some.inj h1))]; exact h1, h2, fun pos cv hc => ?_⟩
  obtain ⟨c, e1, e2⟩ := h3 pos cv hc
  exact ⟨c, e1, by rw [upd_ne (fun z => n2 _ (by rw [z, h] at e2; exact Option.some.inj e2))]; exact e2⟩
/-- one of S is changed -/
theorem Fr.put {Pt : Addr} {S : List Addr} {H H1 : Hp} {p : Addr} {o u : HO} (f : Fr Pt S H H1) (hp : p ∈ S) (h : H1 p = some o) (n : ∀ xs, o ≠ .tup xs) (n1 : NT o) (n2 : ∀ f, o ≠ .ext f) : Fr Pt S H (upd H1 p u) :=
  ⟨fun b w nb e z => by rw [upd_ne (fun q => nb (by rw [q]; exact hp))]; exact f.at_ b w nb e z, f.t.trans (SameT.put h n), tabs_put f.tab h n1 n2⟩
/-- not there at first (or a table) -/
def New (H : Hp) (p : Addr) : Prop := ∀ o, H p = some o → ¬ NT o
theorem New.of {H : Hp} {p : Addr} (h : H p = none) : New H p := fun o e => by rw [h] at e; cases e
theorem New.ne {H : Hp} {p b : Addr} {o : HO} (h : New H p) (e : H b = some o) (n : NT o) : b ≠ p := fun z => h o (by rw [← z]; exact e) n
theorem New.back {Pt : Addr} {S : List Addr} {H H' : Hp} {p : Addr} (f : Fr Pt S H H') (h : New H' p) (hp : ¬ p ∈ S) : New H p := fun o e n => h o (f.at_ p o hp e n) n
/-- one that was not there at first is changed -/
theorem Fr.putN {Pt : Addr} {S : List Addr} {H H1 : Hp} {p : Addr} {o u : HO} (f : Fr Pt S H H1) (hp : New H p) (h : H1 p = some o) (n1 : NT o) (n2 : ∀ f, o ≠ .ext f) : Fr Pt S H (upd H1 p u) :=
  ⟨fun b w nb e z => by rw [upd_ne (hp.ne e z)]; exact f.at_ b w nb e z, fun b xs e => by rw [upd_ne (hp.ne e NT.tup)]; exact f.t b xs e, tabs_put f.tab h n1 n2⟩
theorem Fr.new {Pt : Addr} {S : List Addr} {H H1 : Hp} {p : Addr} {u : HO} (f : Fr Pt S H H1) (hp : H1 p = none) : Fr Pt S H (upd H1 p u) := f.same (same_new hp)
theorem LD.fr {Pt : Addr} {S : List Addr} {H H' : Hp} {p : Addr} {ds : List PyData} (h : LD H p ds) (f : Fr Pt S H H') (n : ¬ p ∈ S) : LD H' p ds := by
  obtain ⟨vs, h1, h2⟩ := h
  exact ⟨vs, f.at_ _ _ n h1 NT.lst, h2.mono f.t⟩
/-! ### lists of lists -/
theorem nd_inj {α : Type} {l : List α} (nd : l.Nodup) {i j : Nat} {a : α} (hi : l[i]? = some a) (hj : l[j]? = some a) : i = j := by
  obtain ⟨a1, a2⟩ := List.getElem?_eq_some_iff.mp hi
  obtain ⟨b1, b2⟩ := List.getElem?_eq_some_iff.mp hj
  have key := List.pairwise_iff_getElem.mp nd
  rcases Nat.lt_trichotomy i j with h | h | h
  · exact absurd (a2.trans b2.symm) (key i j a1 b1 h)
  · exact h
  · exact absurd (b2.trans a2.symm) (key j i b1 a1 h)
structure LL (H : Hp) (p : Addr) (N : Nat) (f : Nat → List PyData) (rows : List Addr) : Prop where
  at_ : H p = some (.lst (rows.map V.ref))
  len : rows.length = N
  nd : rows.Nodup
  ne : ∀ r ∈ rows, r ≠ p
  row : ∀ i r, rows[i]? = some r → LD H r (f i)
theorem LL.there {H : Hp} {p : Addr} {N : Nat} {f : Nat → List PyData} {rows : List Addr} (h : LL H p N f rows) {r : Addr} (hr : r ∈ rows) : ∃ xs, H r = some (.lst xs) := by
  obtain ⟨i, hi⟩ := List.mem_iff_getElem?.mp hr
  obtain ⟨vs, h1, _⟩ := h.row i r hi
  exact ⟨vs, h1⟩
theorem LL.mv {S : List Addr} {H H' : Hp} {p : Addr} {N : Nat} {f : Nat → List PyData} {rows : List Addr} (h : LL H p N f rows) (m : Mv S H H') (n1 : ¬ p ∈ S) (n2 : ∀ r ∈ rows, ¬ r ∈ S) : LL H' p N f rows :=
  ⟨m.1 _ _ n1 h.at_, h.len, h.nd, h.ne, fun i r hr => LD.mv (h.row i r hr) m (n2 r (List.mem_of_getElem? hr))⟩
theorem LL.fr {Pt : Addr} {S : List Addr} {H H' : Hp} {p : Addr} {N : Nat} {f : Nat → List PyData} {rows : List Addr} (h : LL H p N f rows) (m : Fr Pt S H H') (n1 : ¬ p ∈ S) (n2 : ∀ r ∈ rows, ¬ r ∈ S) : LL H' p N f rows :=
  ⟨m.at_ _ _ n1 h.at_ NT.lst, h.len, h.nd, h.ne, fun i r hr => LD.fr (h.row i r hr) m (n2 r (List.mem_of_getElem? hr))⟩
theorem LL.same {H H' : Hp} {p : Addr} {N : Nat} {f : Nat → List PyData} {rows : List Addr} (h : LL H p N f rows) (s : Same H H') : LL H' p N f rows := h.mv (Same.mv s) (by simp : ¬ p ∈ ([] : List Addr)) (by simp)
/-- one row grows -/
theorem LL.grow {H : Hp} {p r : Addr} {N i : Nat} {f g : Nat → List PyData} {rows : List Addr} {vs : List V} {v : V} {d : PyData} (h : LL H p N f rows) (hi : rows[i]? = some r) (hr : H r = some (.lst vs)) (hv : TDs H vs (f i)) (hd : TD H v d) (g1 : g i = f i ++ [d]) (g2 : ∀ j, j ≠ i → g j = f j) :
    LL (upd H r (.lst (vs ++ [v]))) p N g rows := by
  have hm := List.mem_of_getElem? hi
  have st : SameT H (upd H r (.lst (vs ++ [v]))) := SameT.put hr (fun _ z => by cases z)
  refine ⟨by rw [upd_ne (h.ne r hm).symm]; exact h.at_, h.len, h.nd, h.ne, fun j r' hj => ?_⟩
  by_cases e : j = i
  · rw [e] at hj ⊢
    have er : r' = r := Option.some.inj (hj.symm.trans hi)
    rw [er, g1]
    exact ⟨_, upd_same, (hv.mono st).snoc (hd.mono st)⟩
  · rw [g2 j e]
    have nr : r' ≠ r := fun z => e (by
      rw [z] at hj
      exact nd_inj h.nd hj hi)
    obtain ⟨ws, w1, w2⟩ := h.row j r' hj
    exact ⟨ws, by rw [upd_ne nr]; exact w1, w2.mono st⟩
/-! ### rows -/
structure RA where
  p : Addr
  dx : Addr
  b : Addr
  dl : Addr
  le : Addr
  lc : Addr
  dd : Addr
  re : List Addr
  rc : List Addr
/-- what is worked out for each bag -/
def DnOk (H : Hp) (kvs : List (Key × V)) (dn : Nat → Option SWM.SO) : Prop := ∀ c : Nat, (dn c = none → valV kvs (kI c) = none) ∧ ∀ so, dn c = some so → ∃ t x y, valV kvs (kI c) = some (.ref t) ∧ H t = some (.tup [.ref x, .ref y]) ∧ LD H x (so.1.map dS) ∧ LD H y (so.2.map dN)
theorem DnOk.fr {Pt : Addr} {S : List Addr} {H H' : Hp} {kvs : List (Key × V)} {dn : Nat → Option SWM.SO} (h : DnOk H kvs dn) (f : Fr Pt S H H') (n : ∀ b ∈ S, ∀ xs, H b ≠ some (.lst xs)) : DnOk H' kvs dn := fun c => by
  refine ⟨(h c).1, fun so e => ?_⟩
  obtain ⟨t, x, y, h1, h2, h3, h4⟩ := (h c).2 so e
  refine ⟨t, x, y, h1, f.t _ _ h2, LD.fr h3 f fun z => ?_, LD.fr h4 f fun z => ?_⟩
  · obtain ⟨vs, q, _⟩ := h3
    exact n _ z vs q
  · obtain ⟨vs, q, _⟩ := h4
    exact n _ z vs q
structure RF (A : RA) (fs : List (Str × V)) : Prop where
  bags : fs.lookup ("_bags" : Str) = some (.ref A.b)
  labs : fs.lookup ("_labels" : Str) = some (.ref A.dl)
  eds : fs.lookup ("_edges" : Str) = some (.ref A.le)
  kid : fs.lookup ("_children" : Str) = some (.ref A.lc)
  don : fs.lookup ("_done" : Str) = some (.ref A.dd)
  no1 : ∀ m ∈ (["_by_labels", "_from_child", "do", "whole"] : List Str), fs.lookup m = none
/-- the instance, without what is worked out -/
structure RwAt (C : Addr) (H : Hp) (A : RA) (es : List (Nat × Nat)) (B : List (List Nat)) (Pa : List Int) : Prop where
  ins : ∃ fs, H A.p = some (.ins C A.dx fs) ∧ RF A fs
  bags : TD H (.ref A.b) (dB B)
  lab : H A.dl = some (.dK (kN (SWM.labs B Pa)))
  eds : LL H A.le B.length (fun i => (SWM.rowE (SWM.lkD (SWM.labs B Pa)) B es i).map dP) A.re
  kid : LL H A.lc B.length (fun i => (SWM.kids Pa B.length i).map dN) A.rc
  nd : A.dl ≠ A.dd
/-- the instance stands apart from S -/
structure Apart (A : RA) (S : List Addr) : Prop where
  p : ¬ A.p ∈ S
  dl : ¬ A.dl ∈ S
  le : ¬ A.le ∈ S
  lc : ¬ A.lc ∈ S
  re : ∀ r ∈ A.re, ¬ r ∈ S
  rc : ∀ r ∈ A.rc, ¬ r ∈ S
theorem RwAt.fr {Pt C : Addr} {S : List Addr} {H H' : Hp} {A : RA} {es : List (Nat × Nat)} {B : List (List Nat)} {Pa : List Int} (h : RwAt C H A es B Pa) (f : Fr Pt S H H') (a : Apart A S) : RwAt C H' A es B Pa := by
  obtain ⟨fs, h1, h2⟩ := h.ins
  exact ⟨⟨fs, f.at_ _ _ a.p h1 NT.ins, h2⟩, h.bags.mono f.t, f.at_ _ _ a.dl h.lab NT.dK, h.eds.fr f a.le a.re, h.kid.fr f a.lc a.rc, h.nd⟩
theorem apart_nil (A : RA) : Apart A [] := ⟨by simp, by simp, by simp, by simp, by simp, by simp⟩
/-- the dict of what is worked out is none of the others, if it is not the labels' -/
theorem RwAt.apart {C : Addr} {H : Hp} {A : RA} {es : List (Nat × Nat)} {B : List (List Nat)} {Pa : List Int} (h : RwAt C H A es B Pa) {kvs : List (Key × V)} (hd : H A.dd = some (.dK kvs)) : Apart A [A.dd] := by
  obtain ⟨fs, h1, _⟩ := h.ins
  refine ⟨fun z => ne_of h1 hd (by intro z; cases z) (List.mem_singleton.mp z), fun z => h.nd (List.mem_singleton.mp z), fun z => ne_of h.eds.at_ hd (by intro z; cases z) (List.mem_singleton.mp z), fun z => ne_of h.kid.at_ hd (by intro z; cases z) (List.mem_singleton.mp z), fun r hr z => ?_, fun r hr z => ?_⟩
  · obtain ⟨xs, e⟩ := h.eds.there hr
    exact ne_of e hd (by intro z; cases z) (List.mem_singleton.mp z)
  · obtain ⟨xs, e⟩ := h.kid.there hr
    exact ne_of e hd (by intro z; cases z) (List.mem_singleton.mp z)
theorem bag_get {H : Hp} {b : Addr} {B : List (List Nat)} (h : TD H (.ref b) (dB B)) {i : Nat} (hi : i < B.length) : ∃ bs v, H b = some (.tup bs) ∧ bs.length = B.length ∧ bs[i]? = some v ∧ TD H v (dNs (SWM.bagAt B i)) := by
  obtain ⟨a, bs, e, h1, h2⟩ := h.tupI
  cases e
  obtain ⟨v, q1, q2⟩ := h2.get (i := i) (d := dNs (SWM.bagAt B i)) (by rw [List.getElem?_map, bagAt_get hi]; rfl)
  exact ⟨bs, v, h1, by rw [h2.length]; simp, q1, q2⟩
end SW


set_option maxRecDepth 100000
set_option maxHeartbeats 2000000
/-! Rows._by_labels. -/
namespace SW
open PySem PySem.Spec PyProof.Rows L2
section
variable {P : Program} {w : World} {K : PySem.W.Frag} {mg : Str → Option Value} {base : Heap}
/-- what is known of the maker of the lambda -/
structure LB (T : Txt K mg w) (base : Heap) (c Pt : Addr) : Prop where
  code : T.fd_Rows__by_labels.code = .ref c
  tab : LamX.TabB base mg c Pt
theorem okC {CX : CXT} {x qual : Str} {params : Arguments} {body : List Stmt} {scope : Scope} {f c : Addr} {fd : FuncData} {N ps : List Str} {k : Nat} {sp : Sp} (F : FunD K x qual params body scope [] [] f fd) (hc : fd.code = .ref c) (S : FnScope N ps scope) (len : ∀ vs H Q E, sp vs H Q E → vs.length = ps.length)
    (hbody : ∀ (A : Around) (outer : List Env) (s : Shared) (H : Hp) (vs : List V) (Q : VK) (E : XK), Room k (A.deeper (envOfC qual scope s.heap.objs.size f (.ref c))) → sp vs H Q E →
      ∃ t, PSs (cxOf CX P w K mg base N qual scope f (.ref c) A outer s H E) body t ∧ t { nx := fun _ H' => Q .non H', rt := Q } (start N vs) H) : FnOk P w K mg base CX (k + 1) f fd ps sp := by
  obtain ⟨oc, od, dV, kV, doc, pm, an, cdv, ct, osl, rfl, lk, hcd, _, _⟩ := F.ex
  have e : cdv = .ref c := hc
  subst e
  exact fn_of lk hcd S len fun A outer s H vs Q E hr hsp => hbody A outer s H vs Q E hr hsp
def sp_Rows__by_labels (C Pt : Addr) : Sp := fun vs H Q _ => ∃ (p a dx d : Addr) (fs : List (Str × V)) (l : List Nat) (m : List (Nat × Nat)), vs = [.ref p, .ref a] ∧ Sq H a (l.map vN) ∧ LamX.Tabs (TL Pt) H ∧ H p = some (.ins C dx fs) ∧ fs.lookup ("_labels" : Str) = some (.ref d) ∧ H d = some (.dK (kN m)) ∧ (∀ x ∈ l, x ∈ m.map (·.1)) ∧
  ∀ H' q, Fr Pt [] H H' → New H q → H' q = some (.lst ((SWM.byL (SWM.lkD m) l).map vN)) → Q (.ref q) H'
theorem ok_Rows__by_labels (T : Txt K mg w) {c Pt : Addr} (B : LB T base c Pt) : FnOk P w K mg base CX0 2 T.f_Rows__by_labels T.fd_Rows__by_labels ["self", "vertices"] (sp_Rows__by_labels T.C_Rows Pt) := by
  refine okC T.F_Rows__by_labels B.code sc_Rows__by_labels (fun vs H Q E h => ?_) (fun A0 outer s H vs Q E hr h => ?_)
  · obtain ⟨p, a, dx, d, fs, l, m, rfl, _⟩ := h
    rfl
  · obtain ⟨p, a, dx, d, fs, l, m, rfl, hs, ht, hp, hl, hd, hx, q⟩ := h
    refine ⟨_, PSs.nox (pss_one (ps_ret (pe_sortL (T := TL Pt) (C := T.C_Rows) (i := 0) rfl T.z_sorted (pa_cons (pv 1) pa_nil) B.tab rfl (List.mem_singleton.mpr rfl) (fun p hp _ => by rw [List.mem_singleton.mp hp]; rfl) ⟨⟨_, _, _, _, rfl⟩, fun _ _ _ _ _ _ => rfl, rfl, rfl, rfl, by decide +kernel, rfl, rfl⟩ rfl rfl rfl (by decide +kernel) T.cl_Rows T.n_Rows__labels (hr.mono (by decide))))), ?_⟩
    refine ⟨_, rfl, a, p, dx, d, fs, l, m, rfl, hs, ht, rfl, hp, hl, hd, hx, fun H2 eN T2 q2 hq2 => ?_⟩
    have f := Fr.ofExt (S := []) eN T2
    exact q _ q2 (f.new hq2) (New.back f (New.of hq2) (by simp)) upd_same
end
end SW


set_option maxRecDepth 100000
set_option maxHeartbeats 2000000
/-! Rows.__init__. -/
namespace SW
open PySem PySem.Spec PyProof.Rows L2
theorem filter_first {N m : Nat} {p : Nat → Bool} (hm : m < N) (h1 : p m = true) (h2 : ∀ j, j < m → p j = false) : ∃ r, (List.range N).filter p = m :: r := by
  obtain ⟨d, rfl⟩ : ∃ d, N = m + (1 + d) := ⟨N - m - 1, by omega⟩
  rw [List.range_add, List.filter_append]
  have e : (List.range m).filter p = [] := List.filter_eq_nil_iff.mpr fun j hj => by rw [h2 j (List.mem_range.mp hj)]; simp
  rw [e, List.nil_append, List.range_add, List.map_append, List.filter_append]
  have e2 : ((List.range 1).map (fun x => m + x)).filter p = [m] := by
    show [m + 0].filter p = [m]
    simp [h1]
  rw [e2]
  exact ⟨_, rfl⟩
theorem fst2_filter {B : List (List Nat)} {e : Nat × Nat} (h : ∃ b ∈ B, e.1 ∈ b ∧ e.2 ∈ b) : ∃ r, (List.range B.length).filter (fun i => decide (e.1 ∈ SWM.bagAt B i) && decide (e.2 ∈ SWM.bagAt B i)) = SWM.fst2 B e :: r := by
  obtain ⟨h1, h2, h3⟩ := SWM.fst2_spec h
  refine filter_first h1 (by rw [decide_eq_true h2, decide_eq_true h3]; rfl) fun j hj => ?_
  have hl : j < B.length := by omega
  have eb : SWM.bagAt B j = B[j] := by
    unfold SWM.bagAt
    rw [List.getD_eq_getElem?_getD, List.getElem?_eq_getElem hl]; rfl
  rw [eb]
  have h0 : ¬ (e.1 ∈ B[j] ∧ e.2 ∈ B[j]) := fun z => by
    have := List.not_of_lt_findIdx (p := fun b => decide (e.1 ∈ b ∧ e.2 ∈ b)) (xs := B) (i := j) hj
    simp [z] at this
  by_cases z : e.1 ∈ B[j]
  · have z2 : ¬ e.2 ∈ B[j] := fun q => h0 ⟨z, q⟩
    simp [z2]
  · simp [z]
theorem rowE_snoc (L : Nat → Nat) (B : List (List Nat)) (a : List (Nat × Nat)) (e : Nat × Nat) (i : Nat) : SWM.rowE L B (a ++ [e]) i = SWM.rowE L B a i ++ (if SWM.fst2 B e = i then [SWM.sp (L e.1, L e.2)] else []) := by
  unfold SWM.rowE
  rw [List.filter_append, List.map_append]
  by_cases h : SWM.fst2 B e = i
  · rw [if_pos h]; simp [h]
  · rw [if_neg h]; simp [h]
theorem kids_succ (Pa : List Int) (n i : Nat) : SWM.kids Pa (n + 1) i = SWM.kids Pa n i ++ (if 0 < n ∧ SWM.parOf Pa n = i then [n] else []) := by
  unfold SWM.kids
  rw [List.range_succ, List.filter_append]
  by_cases h : 0 < n ∧ SWM.parOf Pa n = i
  · rw [if_pos h]; simp [h]
  · rw [if_neg h, List.filter_cons, decide_eq_false h]; simp
theorem lab_mem {n : Nat} {es : List (Nat × Nat)} {B : List (List Nat)} {Pa : List Int} (D : SWM.Dec n es B Pa) {i : Nat} (hi : i < B.length) {x : Nat} (hx : x ∈ SWM.bagAt B i) : x ∈ (SWM.labs B Pa).map (·.1) := (labsTo_keys D B.length (Nat.le_refl _) x).mpr ⟨i, hi, hx⟩
section
variable {P : Program} {w : World} {K : PySem.W.Frag} {mg : Str → Option Value} {base : Heap}
/-- [[] for _ in bags], under way -/
def RInv (H3 : Hp) (D : Addr) (i : Nat) (H' : Hp) : Prop := Same H3 H' ∧ ∃ rows : List Addr, H' D = some (.lst (rows.map V.ref)) ∧ rows.length = i ∧ rows.Nodup ∧ ∀ r ∈ rows, r ≠ D ∧ H3 r = none ∧ H' r = some (.lst [])
theorem RInv.start {H3 : Hp} {D : Addr} (hD : H3 D = none) : RInv H3 D 0 (upd H3 D (.lst [])) := ⟨same_new hD, [], upd_same, rfl, .nil, by simp⟩
theorem RInv.step {H3 H5 : Hp} {D r : Addr} {i : Nat} (h : RInv H3 D i H5) (hD : H3 D = none) (hr : H5 r = none) (hi : i < 1000000) : ∃ acc, (upd H5 r (.lst [])) D = some (.lst acc) ∧ acc.length < sizeLine ∧ RInv H3 D (i + 1) (upd (upd H5 r (.lst [])) D (.lst (acc ++ [.ref r]))) := by
  obtain ⟨s5, rows, h1, h2, h3, h4⟩ := h
  have s6 := same_new (o := .lst []) hr
  have nrr : r ≠ D := (ne_of_none h1 hr).symm
  refine ⟨_, s6 _ _ h1, lt_line (by rw [List.length_map]; omega), Same.put (s5.trans s6) hD, rows ++ [r], by rw [upd_same]; simp, by simp [h2], ?_, fun r' hr' => ?_⟩
  · refine List.nodup_append.mpr ⟨h3, by simp, fun a ha b hb => ?_⟩
    rw [List.mem_singleton.mp hb]
    exact ne_of_none (h4 a ha).2.2 hr
  · rcases List.mem_append.mp hr' with z | z
    · obtain ⟨a1, a2, a3⟩ := h4 r' z
      exact ⟨a1, a2, by rw [upd_ne a1]; exact s6 _ _ a3⟩
    · have : r' = r := by simpa using z
      rw [this]
      exact ⟨nrr, s5.free hr, by rw [upd_ne nrr]; exact upd_same⟩
/-- [[] for _ in bags] -/
theorem rows_new {H : Hp} {D : Addr} {rows : List Addr} {N : Nat} (h1 : H D = some (.lst (rows.map V.ref))) (h2 : rows.length = N) (h3 : rows.Nodup) (h4 : ∀ r ∈ rows, r ≠ D ∧ H r = some (.lst [])) : LL H D N (fun _ => []) rows :=
  ⟨h1, h2, h3, fun r hr => (h4 r hr).1, fun i r hr => ⟨[], (h4 r (List.mem_of_getElem? hr)).2, .nil⟩⟩
def sp_Rows___init__ (C CG : Addr) : Sp := fun vs H Q _ => ∃ (p dx g : Addr) (vb vp : V) (n : Nat) (es : List (Nat × Nat)) (B : List (List Nat)) (Pa : List Int), vs = [.ref p, .ref g, vb, vp] ∧ H p = some (.ins C dx []) ∧ GrAt CG H g n es ∧ TD H vb (dB B) ∧ TD H vp (dI Pa) ∧ SWM.Dec n es B Pa ∧ B.length ≤ 100000 ∧ n ≤ 1000 ∧ es.length ≤ 100000 ∧
  ∀ H' (A : RA), Mv [p] H H' → A.p = p → RwAt C H' A es B Pa → H A.dd = none → H' A.dd = some (.dK []) → Q .non H'
theorem ok_Rows___init__ (T : Txt K mg w) : FnOk P w K mg base CX0 2 T.f_Rows___init__ T.fd_Rows___init__ ["self", "graph", "bags", "parents"] (sp_Rows___init__ T.C_Rows T.C_Graph) := by
  refine T.F_Rows___init__.ok sc_Rows___init__ (fun vs H Q E h => ?_) (fun cdv A0 outer s H vs Q E hr h => ?_)
  · obtain ⟨p, dx, g, vb, vp, n, es, B, Pa, rfl, _⟩ := h
    rfl
  · obtain ⟨p, dx, g, vb, vp, n, es, B, Pa, rfl, hp, hg, hb, hpa, D0, hz, hn, hel, q⟩ := h
    have hu := hu65 hr
    have hu1 := hu_of hr
    refine ⟨_, PSs.nox (pss_cons (ps_fld (pv 0) (pv 2) rfl)
    (pss_cons (ps_fld (pv 0) (pe_call (ok__labels T) (hr.mono (by decide)) rfl T.g__labels T.F__labels.kp (b__labels T) .nil pass0 (pa_cons (pv 2) (pa_cons (pv 3) pa_nil))) rfl)
    (pss_cons (ps_fld (pv 0) (pe_lc (own := [("_", 7)]) (g := gName 7) rfl sc_Rows___init__.nd (pi_tup (pv 2)) (blkOk_by (N := ["self", "graph", "bags", "parents", "u", "v", "at", "_", "number"]) (sc := defScope s_Rows___init__) (by decide +kernel)) (fun _ _ _ _ _ => pg_name (i := 7) sc_Rows___init__.nd rfl (Or.inl rfl)) (fun _ _ _ _ _ => pts_nil) (fun _ _ _ _ _ => (pe_lst pa_nil))) rfl)
    (pss_cons (ps_for PassesOwn.never rfl (pi_tup (pe_f (C := T.C_Graph) (pv 1) T.cl_Graph T.n_Graph_edges)) (pg_tup rfl (pgs_cons (pg_name (i := 4) sc_Rows___init__.nd rfl (Or.inr rfl)) (pgs_cons (pg_name (i := 5) sc_Rows___init__.nd rfl (Or.inr rfl)) pgs_nil)))
    (pss_cons (ps_set (i := 6) sc_Rows___init__.nd rfl (Or.inl rfl) (pe_ix op_ix (pe_lc (own := [("number", 8)]) (g := gName 8) rfl sc_Rows___init__.nd (pi_range1 rfl T.z_range (pa_cons (pe_callB cr_len rfl T.z_len boot_len (pa_cons (pv 2) pa_nil)) pa_nil)) (blkOk_by (N := ["self", "graph", "bags", "parents", "u", "v", "at", "_", "number"]) (sc := defScope s_Rows___init__) (by decide +kernel)) (fun _ _ _ _ _ => pg_name (i := 8) sc_Rows___init__.nd rfl (Or.inl rfl)) (fun _ _ _ _ _ => pts_one (PW.pt (pw_and (pt_cmpR (op_inT (Nat.lt_of_succ_lt hu)) (pv 4) (pe_ix op_ix (pv 2) (pv 8) (fun _ _ => rfl)) (by first | exact nomark _ | with_unfolding_all rfl)) (pw_and1 (pt_cmpR (op_inT (Nat.lt_of_succ_lt hu)) (pv 5) (pe_ix op_ix (pv 2) (pv 8) (fun _ _ => rfl)) (by first | exact nomark _ | with_unfolding_all rfl)))))) (fun _ _ _ _ _ => (pv 8))) pe_int (fun _ _ => rfl)))
    (pss_one (ps_expr (pe_bm PySem.F.plainAttrs_list PySem.F.slot_list_append PySem.F.type_list_append mt_append (pe_ix op_ix (pe_f (C := T.C_Rows) (pv 0) T.cl_Rows T.n_Rows__edges) (pv 6) (fun _ _ => rfl)) (pa_cons (pe_callTy cr_tup rfl T.z_tuple boot_tuple (pa_cons (pe_callB (cr_sortedD hu) rfl T.z_sorted boot_sorted (pa_cons (pe_lst (pa_cons (pe_dget hu1 (pe_f (C := T.C_Rows) (pv 0) T.cl_Rows T.n_Rows__labels) (pv 4) (fun _ _ => rfl)) (pa_cons (pe_dget hu1 (pe_f (C := T.C_Rows) (pv 0) T.cl_Rows T.n_Rows__labels) (pv 5) (fun _ _ => rfl)) pa_nil))) pa_nil)) pa_nil)) pa_nil))))))
    (pss_cons (ps_fld (pv 0) (pe_lc (own := [("_", 7)]) (g := gName 7) rfl sc_Rows___init__.nd (pi_tup (pv 2)) (blkOk_by (N := ["self", "graph", "bags", "parents", "u", "v", "at", "_", "number"]) (sc := defScope s_Rows___init__) (by decide +kernel)) (fun _ _ _ _ _ => pg_name (i := 7) sc_Rows___init__.nd rfl (Or.inl rfl)) (fun _ _ _ _ _ => pts_nil) (fun _ _ _ _ _ => (pe_lst pa_nil))) rfl)
    (pss_cons (ps_for PassesOwn.never rfl (pi_range2 rfl T.z_range (pa_cons pe_int (pa_cons (pe_callB cr_len rfl T.z_len boot_len (pa_cons (pv 2) pa_nil)) pa_nil))) (pg_name (i := 6) sc_Rows___init__.nd rfl (Or.inl rfl))
    (pss_one (ps_expr (pe_bm PySem.F.plainAttrs_list PySem.F.slot_list_append PySem.F.type_list_append mt_append (pe_ix op_ix (pe_f (C := T.C_Rows) (pv 0) T.cl_Rows T.n_Rows__children) (pe_ix op_ix (pv 3) (pv 6) (fun _ _ => rfl)) (fun _ _ => rfl)) (pa_cons (pv 6) pa_nil)))))
    (pss_one (ps_fld (pv 0) pe_dnewK rfl))))))))
    , ?_⟩
    obtain ⟨b, bs, rfl, hb1, hb2⟩ := hb.tupI
    obtain ⟨pt, ps, rfl, hp1, hp2⟩ := hpa.tupI
    have hbl : bs.length = B.length := by rw [hb2.length]; simp
    have hpl : ps = Pa.map V.int := hp2.ints
    obtain ⟨gx, gs, gv, g1, g2, g3, g4⟩ := hg
    obtain ⟨et, ys, rfl, he1, he2⟩ := g4.tupI
    have hyl : ys.length = es.length := by rw [he2.length]; simp
    have ngp : g ≠ p := fun z => by
      rw [z] at g1
      have h2 := (HO.ins.inj (Option.some.inj (hp.symm.trans g1))).2.2
      rw [← h2] at g2
      cases g2
    -- self._bags
    refine ⟨_, rfl, _, rfl, _, _, _, _, rfl, hp, T.cl_Rows, T.n_Rows__bags, by decide, ?_⟩
    have M1 : Mv [p] H (upd H p (.ins T.C_Rows dx (putF "_bags" (.ref b) []))) := Mv.one hp (fun _ z => by cases z)
    have i1 : (upd H p (.ins T.C_Rows dx (putF "_bags" (.ref b) []))) p = some (.ins T.C_Rows dx (putF "_bags" (.ref b) [])) := upd_same
    generalize upd H p (.ins T.C_Rows dx (putF "_bags" (.ref b) [])) = H1 at M1 i1 ⊢
    -- self._labels
    refine ⟨_, rfl, _, rfl, _, _, n, es, B, Pa, rfl, (TD.tup hb1 hb2).mono M1.2, (TD.tup hp1 hp2).mono M1.2, D0, hz, hn, fun H2 d s2 hd0 hd2 => ?_⟩
    refine ⟨_, rfl, _, _, _, _, rfl, s2 _ _ i1, T.cl_Rows, T.n_Rows__labels, (by show 1 < 1000; decide), ?_⟩
    have ndp : d ≠ p := (ne_of_none i1 hd0).symm
    have M3 : Mv [p] H (upd H2 p (.ins T.C_Rows dx (putF "_labels" (.ref d) (putF "_bags" (.ref b) [])))) := (M1.trans (Same.mv s2)).trans (Mv.one (s2 _ _ i1) (fun _ z => by cases z))
    have i3 : (upd H2 p (.ins T.C_Rows dx (putF "_labels" (.ref d) (putF "_bags" (.ref b) [])))) p = some (.ins T.C_Rows dx (putF "_labels" (.ref d) (putF "_bags" (.ref b) []))) := upd_same
    have d3 : (upd H2 p (.ins T.C_Rows dx (putF "_labels" (.ref d) (putF "_bags" (.ref b) [])))) d = some (.dK (kN (SWM.labs B Pa))) := by rw [upd_ne ndp]; exact hd2
    generalize upd H2 p (.ins T.C_Rows dx (putF "_labels" (.ref d) (putF "_bags" (.ref b) []))) = H3 at M3 i3 d3 ⊢
    have hb3 := M3.2 _ _ hb1
    -- self._edges = [[] for _ in bags]
    refine ⟨_, rfl, b, rfl, ⟨_, SqT.of hb3⟩, fun le hle0 => lc_it (walk_tup (xs := bs)) (fun i H' => RInv H3 le i H') (RInv.start hle0) (fun i H' _ r => SqT.of (r.1 _ _ hb3)) ?_ ?_⟩
    · rintro i x H4 H4' hi r ⟨rfl, _⟩
      exact ⟨rfl, Nat.zero_le _, fun r0 hr0 => r.step hle0 hr0 (by omega)⟩
    · rintro H4 ⟨s4, re, l1, l2, l3, l4⟩
      refine ⟨_, rfl, _, _, _, _, rfl, s4 _ _ i3, T.cl_Rows, T.n_Rows__edges, (by show 2 < 1000; decide), ?_⟩
      have nlp : le ≠ p := (ne_of_none i3 hle0).symm
      have nld : le ≠ d := (ne_of_none d3 hle0).symm
      have M5 : Mv [p] H (upd H4 p (.ins T.C_Rows dx (putF "_edges" (.ref le) (putF "_labels" (.ref d) (putF "_bags" (.ref b) []))))) := (M3.trans (Same.mv s4)).trans (Mv.one (s4 _ _ i3) (fun _ z => by cases z))
      have i5 : (upd H4 p (.ins T.C_Rows dx (putF "_edges" (.ref le) (putF "_labels" (.ref d) (putF "_bags" (.ref b) []))))) p = some (.ins T.C_Rows dx (putF "_edges" (.ref le) (putF "_labels" (.ref d) (putF "_bags" (.ref b) [])))) := upd_same
      have d5 : (upd H4 p (.ins T.C_Rows dx (putF "_edges" (.ref le) (putF "_labels" (.ref d) (putF "_bags" (.ref b) []))))) d = some (.dK (kN (SWM.labs B Pa))) := by rw [upd_ne ndp]; exact s4 _ _ d3
      have nrp : ∀ r ∈ re, r ≠ p := fun r hr => (ne_of_none i3 (l4 r hr).2.1).symm
      have nrd : ∀ r ∈ re, r ≠ d := fun r hr => (ne_of_none d3 (l4 r hr).2.1).symm
      have L5 : LL (upd H4 p (.ins T.C_Rows dx (putF "_edges" (.ref le) (putF "_labels" (.ref d) (putF "_bags" (.ref b) []))))) le B.length (fun _ => []) re :=
        rows_new (by rw [upd_ne nlp]; exact l1) (by rw [l2]; exact hbl) l3 fun r hr => ⟨(l4 r hr).1, by rw [upd_ne (nrp r hr)]; exact (l4 r hr).2.2⟩
      have fre : ∀ r ∈ re, H r = none := fun r hr => by
        cases e : H r with
        | none => rfl
        | some o =>
          have := M3.1 r o (by simpa using nrp r hr) e
          rw [(l4 r hr).2.1] at this
          cases this
      have e0 : (fun _ => []) = fun i => (SWM.rowE (SWM.lkD (SWM.labs B Pa)) B (es.take 0) i).map dP := by funext i; simp [SWM.rowE]
      rw [e0] at L5
      generalize upd H4 p (.ins T.C_Rows dx (putF "_edges" (.ref le) (putF "_labels" (.ref d) (putF "_bags" (.ref b) [])))) = H5 at M5 i5 d5 L5 ⊢
      -- for u, v in graph.edges
      refine ⟨_, rfl, _, _, _, _, rfl, M5.at g1 ngp, g3, et, rfl, ⟨_, SqT.of (M5.2 _ _ he1)⟩, for_it (walk_tup (xs := ys)) (fun i σ H' => ∃ o4 o5 o6 : Option V, σ = [some (.ref p), some (.ref g), some (.ref b), some (.ref pt), o4, o5, o6, none, none] ∧ Mv [p] H H' ∧
          H' p = some (.ins T.C_Rows dx (putF "_edges" (.ref le) (putF "_labels" (.ref d) (putF "_bags" (.ref b) [])))) ∧ H' d = some (.dK (kN (SWM.labs B Pa))) ∧ LL H' le B.length (fun j => (SWM.rowE (SWM.lkD (SWM.labs B Pa)) B (es.take i) j).map dP) re)
        ⟨none, none, none, rfl, M5, i5, d5, L5⟩ (fun i σ H' _ ⟨_, _, _, _, mv, _⟩ => SqT.of (mv.2 _ _ he1)) ?_ ?_⟩
      · rintro i x σ H6 H6' hi ⟨o4, o5, o6, rfl, mv, i6, d6, L6⟩ ⟨rfl, hx⟩
        obtain ⟨dd, hn1, hxd⟩ := he2.getV hx
        obtain ⟨pr, hpr, rfl⟩ := map_at hn1
        obtain ⟨c, rfl, hc⟩ := (hxd.mono mv.2).pairI
        have hm := List.mem_of_getElem? hpr
        have hedg := D0.edg pr hm
        obtain ⟨f1, f2, f3⟩ := SWM.fst2_spec hedg
        have hb6 := mv.2 _ _ hb1
        refine ⟨_, _, rfl, SqT.of hc, rfl, _, _, rfl, _, _, rfl, rfl, ?_⟩
        -- at = [..][0]
        refine ⟨_, rfl, _, _, rfl, .inr hb6, bs.length, rfl, by omega, by omega, fun D hD => lc_td walk_range hD (outF (List.range B.length) (fun j => decide (pr.1 ∈ SWM.bagAt B j) && decide (pr.2 ∈ SWM.bagAt B j)) dN) outF_0 (fun H h => True.intro) ?_ ?_⟩
        · rintro j y H7 H7' hj pl ⟨rfl, rfl⟩
          have hjl : j < B.length := by rw [← hbl]; omega
          have hrj : (List.range B.length)[j]? = some j := by rw [List.getElem?_range hjl]
          obtain ⟨bv, hbv1, hbv2⟩ := hb2.get (i := j) (d := dNs (SWM.bagAt B j)) (by rw [List.getElem?_map, bagAt_get hjl]; rfl)
          have hb7 := pl.1 _ _ hb6
          have hbv7 := hbv2.mono (mv.2.trans (Same.t pl.1))
          refine ⟨rfl, _, rfl, _, rfl, _, rfl, _, _, _, bv, rfl, rfl, .inr hb7, atN (j := j) (by omega) hbv1, dN pr.1, (SWM.bagAt B j).map dN, .int _, hbv7, Nice.of (ni_N _) (by decide), ⟨(niceAll_map ni_N _).lay, Nat.le_trans (niceAll_map ni_N _).dep (by decide)⟩, _, rfl, ?_⟩
          rw [any_map eqv_N]
          by_cases z1 : pr.1 ∈ SWM.bagAt B j
          · rw [decide_eq_true z1]
            refine iteT ⟨_, rfl, _, rfl, _, rfl, _, _, _, bv, rfl, rfl, .inr hb7, atN (j := j) (by omega) hbv1, dN pr.2, (SWM.bagAt B j).map dN, .int _, hbv7, Nice.of (ni_N _) (by decide), ⟨(niceAll_map ni_N _).lay, Nat.le_trans (niceAll_map ni_N _).dep (by decide)⟩, _, rfl, ?_⟩
            rw [any_map eqv_N]
            by_cases z2 : pr.2 ∈ SWM.bagAt B j
            · rw [decide_eq_true z2]
              refine iteT ⟨_, rfl, ?_⟩
              rw [outF_yes hrj (by rw [decide_eq_true z1, decide_eq_true z2]; rfl)]
              exact pl.add hD (Same.refl _) (by show TD _ (V.int (0 + (j : Int))) _; rw [Int.zero_add]; exact .int _) (lt_line (Nat.le_trans outF_len (by rw [List.length_range]; omega)))
            · rw [decide_eq_false z2]
              refine iteF ?_
              rw [outF_no hrj (by rw [decide_eq_false z2, Bool.and_false])]
              exact pl
          · rw [decide_eq_false z1]
            refine iteF ?_
            refine iteF ?_
            rw [outF_no hrj (by rw [decide_eq_false z1, Bool.false_and])]
            exact pl
        · intro H7 pl
          obtain ⟨rr, hrr⟩ := fst2_filter hedg
          rw [show ((bs.length : Int)).toNat = (List.range B.length).length by rw [List.length_range]; omega, outF_all, hrr] at pl
          have s7 := pl.1
          have hD7 := pl.nats
          refine ⟨_, _, _, vN (SWM.fst2 B pr), rfl, rfl, .inl hD7, at0, ?_⟩
          -- append
          obtain ⟨r, hr⟩ : ∃ r, re[SWM.fst2 B pr]? = some r := ⟨_, List.getElem?_eq_getElem (by rw [L6.len]; exact f1)⟩
          have hrm := List.mem_of_getElem? hr
          have L7 := L6.same s7
          obtain ⟨rv, hr1, hr2⟩ := L7.row _ _ hr
          have d7 := s7 _ _ d6
          have i7 := s7 _ _ i6
          have hil : i < es.length := by rw [← hyl]; exact hi
          have hrl : rv.length ≤ es.length := by
            rw [hr2.length, List.length_map]
            unfold SWM.rowE
            rw [List.length_map]
            exact Nat.le_trans (List.length_filter_le _ _) (by rw [List.length_take]; omega)
          refine ⟨_, rfl, _, _, _, _, rfl, i7, rfl, _, rfl, _, _, _, V.ref r, rfl, rfl, .inl L7.at_, atI_nat (v := V.ref r) (by rw [List.getElem?_map, hr]; rfl), .inl ⟨rfl, _, SqL.of hr1⟩, ?_⟩
          refine ⟨_, rfl, _, _, _, _, rfl, i7, rfl, _, rfl, d, _, rfl, dget (.inl d7) (lab_mem D0 f1 f2), _, rfl, _, _, _, _, rfl, i7, rfl, _, rfl, d, _, rfl, dget (.inl d7) (lab_mem D0 f1 f3), two_line, fun q1 hq1 => ?_⟩
          have s8 := same_new (o := .lst [vN (SWM.lkD (SWM.labs B Pa) pr.1), vN (SWM.lkD (SWM.labs B Pa) pr.2)]) hq1
          refine sortedN [SWM.lkD (SWM.labs B Pa) pr.1, SWM.lkD (SWM.labs B Pa) pr.2] (.inl upd_same) (.cons (.int _) (.cons (.int _) .nil)) fun q2 hq2 => ?_
          rw [srt_two]
          have s9 := same_new (o := .lst (([(SWM.sp (SWM.lkD (SWM.labs B Pa) pr.1, SWM.lkD (SWM.labs B Pa) pr.2)).1, (SWM.sp (SWM.lkD (SWM.labs B Pa) pr.1, SWM.lkD (SWM.labs B Pa) pr.2)).2]).map vN)) hq2
          refine ⟨_, _, rfl, upd_same, fun q3 hq3 => ?_⟩
          have s10 := same_new (o := .tup (([(SWM.sp (SWM.lkD (SWM.labs B Pa) pr.1, SWM.lkD (SWM.labs B Pa) pr.2)).1, (SWM.sp (SWM.lkD (SWM.labs B Pa) pr.1, SWM.lkD (SWM.labs B Pa) pr.2)).2]).map vN)) hq3
          have s710 := s8.trans (s9.trans s10)
          have hq3v := TD.ofPair (p := SWM.sp (SWM.lkD (SWM.labs B Pa) pr.1, SWM.lkD (SWM.labs B Pa) pr.2)) (upd_same (H := upd (upd H7 q1 (.lst [vN (SWM.lkD (SWM.labs B Pa) pr.1), vN (SWM.lkD (SWM.labs B Pa) pr.2)])) q2 (.lst (([(SWM.sp (SWM.lkD (SWM.labs B Pa) pr.1, SWM.lkD (SWM.labs B Pa) pr.2)).1, (SWM.sp (SWM.lkD (SWM.labs B Pa) pr.1, SWM.lkD (SWM.labs B Pa) pr.2)).2]).map vN))) (a := q3))
          refine ⟨r, _, _, rfl, rfl, s710 _ _ hr1, lt_line (by omega), ?_⟩
          have L10 := L7.same s710
          have e4 : es.take (i + 1) = es.take i ++ [pr] := by rw [List.take_add_one, hpr]; rfl
          refine ⟨_, _, _, rfl, ((mv.trans (Same.mv s7)).trans (Same.mv s710)).putN (fre r hrm), ?_, ?_, ?_⟩
          · rw [upd_ne (nrp r hrm).symm]; exact s710 _ _ i7
          · rw [upd_ne (nrd r hrm).symm]; exact s710 _ _ d7
          · refine L10.grow hr (s710 _ _ hr1) (hr2.mono (Same.t s710)) hq3v ?_ ?_
            · rw [e4, rowE_snoc, if_pos rfl, List.map_append]; rfl
            · intro j hj
              rw [e4, rowE_snoc, if_neg (fun z => hj z.symm), List.append_nil]
      · rintro σ H6 ⟨o4, o5, o6, rfl, mv, i6, d6, L6⟩
        rw [hyl, List.take_length] at L6
        have hb6 := mv.2 _ _ hb1
        have hp6 := mv.2 _ _ hp1
        -- self._children = [[] for _ in bags]
        refine ⟨_, rfl, b, rfl, ⟨_, SqT.of hb6⟩, fun lc hlc0 => lc_it (walk_tup (xs := bs)) (fun i H' => RInv H6 lc i H') (RInv.start hlc0) (fun i H' _ r => SqT.of (r.1 _ _ hb6)) ?_ ?_⟩
        · rintro i x H7 H7' hi r ⟨rfl, _⟩
          exact ⟨rfl, Nat.zero_le _, fun r0 hr0 => r.step hlc0 hr0 (by omega)⟩
        · rintro H7 ⟨s7, rc, k1, k2, k3, k4⟩
          refine ⟨_, rfl, _, _, _, _, rfl, s7 _ _ i6, T.cl_Rows, T.n_Rows__children, (by show 3 < 1000; decide), ?_⟩
          have ncp : lc ≠ p := (ne_of_none i6 hlc0).symm
          have nqp : ∀ r ∈ rc, r ≠ p := fun r hr => (ne_of_none i6 (k4 r hr).2.1).symm
          have N8 : Mv [p] H6 (upd H7 p (.ins T.C_Rows dx (putF "_children" (.ref lc) (putF "_edges" (.ref le) (putF "_labels" (.ref d) (putF "_bags" (.ref b) [])))))) := (Same.mv s7).trans (Mv.one (s7 _ _ i6) (fun _ z => by cases z))
          have i8 : (upd H7 p (.ins T.C_Rows dx (putF "_children" (.ref lc) (putF "_edges" (.ref le) (putF "_labels" (.ref d) (putF "_bags" (.ref b) [])))))) p = some (.ins T.C_Rows dx (putF "_children" (.ref lc) (putF "_edges" (.ref le) (putF "_labels" (.ref d) (putF "_bags" (.ref b) []))))) := upd_same
          have K8 : LL (upd H7 p (.ins T.C_Rows dx (putF "_children" (.ref lc) (putF "_edges" (.ref le) (putF "_labels" (.ref d) (putF "_bags" (.ref b) [])))))) lc B.length (fun _ => []) rc :=
            rows_new (by rw [upd_ne ncp]; exact k1) (by rw [k2]; exact hbl) k3 fun r hr => ⟨(k4 r hr).1, by rw [upd_ne (nqp r hr)]; exact (k4 r hr).2.2⟩
          have e1 : (fun _ => []) = fun i => (SWM.kids Pa (0 + 1) i).map dN := by
            funext i
            simp [SWM.kids, List.range_succ]
          rw [e1] at K8
          generalize upd H7 p (.ins T.C_Rows dx (putF "_children" (.ref lc) (putF "_edges" (.ref le) (putF "_labels" (.ref d) (putF "_bags" (.ref b) []))))) = H8 at N8 i8 K8 ⊢
          have hBne : 0 < B.length := List.length_pos_iff.mpr D0.ne
          -- for at in range(1, len(bags))
          refine ⟨_, rfl, _, _, rfl, .inr (N8.2 _ _ hb6), _, _, rfl, ⟨by omega, by omega, by omega, by omega⟩, for_it walk_range (fun i σ H' => ∃ o6 : Option V, σ = [some (.ref p), some (.ref g), some (.ref b), some (.ref pt), o4, o5, o6, none, none] ∧ Mv [p] H6 H' ∧
              H' p = some (.ins T.C_Rows dx (putF "_children" (.ref lc) (putF "_edges" (.ref le) (putF "_labels" (.ref d) (putF "_bags" (.ref b) []))))) ∧ LL H' lc B.length (fun j => (SWM.kids Pa (i + 1) j).map dN) rc)
            ⟨o6, rfl, N8, i8, K8⟩ (fun i σ H' _ _ => True.intro) ?_ ?_⟩
          · rintro i x σ H9 H9' hi ⟨o6, rfl, nv, i9, K9⟩ ⟨rfl, rfl⟩
            have hi' : i + 1 < B.length := by omega
            obtain ⟨j, hj1, hj2⟩ := D0.par (i + 1) (by omega) hi'
            have hpj : ps[i + 1]? = some (.int (j : Int)) := by rw [hpl, List.getElem?_map, hj1]; rfl
            have hpo : SWM.parOf Pa (i + 1) = j := by
              unfold SWM.parOf
              rw [List.getD_eq_getElem?_getD, hj1]; simp
            obtain ⟨r, hr⟩ : ∃ r, rc[j]? = some r := ⟨_, List.getElem?_eq_getElem (by rw [K9.len]; omega)⟩
            have hrm := List.mem_of_getElem? hr
            obtain ⟨rv, hr1, hr2⟩ := K9.row _ _ hr
            have hrl : rv.length ≤ i + 1 := by
              rw [hr2.length, List.length_map]
              unfold SWM.kids
              exact Nat.le_trans (List.length_filter_le _ _) (by rw [List.length_range]; omega)
            refine ⟨_, rfl, _, _, _, _, rfl, i9, rfl, _, rfl, _, rfl, _, _, _, V.int (j : Int), rfl, rfl, .inr (nv.2 _ _ hp6), atN (j := i + 1) (by omega) hpj, _, _, _, V.ref r, rfl, rfl, .inl K9.at_, atI_nat (v := V.ref r) (by rw [List.getElem?_map, hr]; rfl), .inl ⟨rfl, _, SqL.of hr1⟩, _, rfl, r, _, _, rfl, rfl, hr1, lt_line (by omega), ?_⟩
            refine ⟨_, rfl, nv.putN (k4 r hrm).2.1, by rw [upd_ne (nqp r hrm).symm]; exact i9, ?_⟩
            have ei : V.int (1 + (i : Int)) = vN (i + 1) := by unfold vN; congr 1; omega
            show LL (upd H9' r (.lst (rv ++ [V.int (1 + (i : Int))]))) _ _ _ _
            rw [ei]
            refine K9.grow hr hr1 hr2 (.int _) ?_ ?_
            · rw [kids_succ Pa (i + 1), if_pos ⟨by omega, hpo⟩, List.map_append]; rfl
            · intro j' hj'
              rw [kids_succ Pa (i + 1), if_neg (fun z => hj' (z.2.symm.trans hpo)), List.append_nil]
          · rintro σ H9 ⟨o6, rfl, nv, i9, K9⟩
            have eB : ((bs.length : Int) - 1).toNat + 1 = B.length := by omega
            rw [eB] at K9
            intro dd hdd
            have s10 := same_new (o := .dK []) hdd
            refine ⟨_, rfl, _, _, _, _, rfl, s10 _ _ i9, T.cl_Rows, T.n_Rows__done, (by show 4 < 1000; decide), ?_⟩
            have nddp : dd ≠ p := (ne_of_none i9 hdd).symm
            have N11 : Mv [p] H6 (upd (upd H9 dd (.dK [])) p (.ins T.C_Rows dx (putF "_done" (.ref dd) (putF "_children" (.ref lc) (putF "_edges" (.ref le) (putF "_labels" (.ref d) (putF "_bags" (.ref b) []))))))) := (nv.trans (Same.mv s10)).trans (Mv.one (s10 _ _ i9) (fun _ z => by cases z))
            have M11 := mv.trans N11
            have d9 : H9 d = some (.dK (kN (SWM.labs B Pa))) := nv.at d6 ndp
            have nle : ¬ le ∈ [p] := by simpa using nlp
            refine q _ ⟨p, dx, b, d, le, lc, dd, re, rc⟩ M11 rfl ⟨⟨_, upd_same, rfl, rfl, rfl, rfl, rfl, fun m hm => by
              simp only [List.mem_cons, List.not_mem_nil, or_false] at hm
              rcases hm with z | z | z | z <;> rw [z] <;> rfl⟩, ?_, ?_, ?_, ?_, ?_⟩ ?_ ?_
            · exact .tup (M11.2 _ _ hb1) (hb2.mono M11.2)
            · exact N11.at d6 ndp
            · exact L6.mv N11 (by simpa using nlp) fun r hr => by simpa using nrp r hr
            · exact (K9.same s10).mv (Mv.one (s10 _ _ i9) (fun _ z => by cases z)) (by simpa using ncp) fun r hr => by simpa using nqp r hr
            · exact ne_of_none d9 hdd
            · cases e : H dd with
              | none => rfl
              | some o =>
                have h6 := mv.1 dd o (by simpa using nddp) e
                have h9 := nv.1 dd o (by simpa using nddp) h6
                rw [hdd] at h9
                cases h9
            · rw [upd_ne nddp]; exact upd_same
end
end SW


set_option maxRecDepth 100000
set_option maxHeartbeats 2000000
/-! Rows._from_child. -/
namespace SW
open PySem PySem.Spec PyProof.Rows L2
theorem byL_len2 (L : Nat → Nat) (l : List Nat) : (SWM.byL L l).length = l.length := SWM.byL_len L l
theorem outM_cong {α : Type} (l : List α) (f g : α → PyData) (h : f = g) (i : Nat) : outM l f i = outM l g i := by rw [h]
section
variable {P : Program} {w : World} {K : PySem.W.Frag} {mg : Str → Option Value} {base : Heap}
def sp_Rows__from_child (C Pt : Addr) : Sp := fun vs H Q _ => ∃ (A : RA) (n : Nat) (es : List (Nat × Nat)) (B : List (List Nat)) (Pa : List Int) (kvs : List (Key × V)) (dn : Nat → Option SWM.SO) (i c : Nat) (so : SWM.SO), vs = [.ref A.p, vN i, vN c] ∧ RwAt C H A es B Pa ∧ SWM.Dec n es B Pa ∧ n ≤ 1000 ∧
  H A.dd = some (.dK kvs) ∧ DnOk H kvs dn ∧ dn c = some so ∧ i < B.length ∧ c < B.length ∧ so.1.length ≤ 100000 ∧ so.2.length ≤ 100000 ∧ LamX.Tabs (TL Pt) H ∧
  ∀ H' t x y, Fr Pt [A.dd] H H' → H' t = some (.tup [.ref x, .ref y]) → LD H' x ((SWM.fromC (SWM.lkD (SWM.labs B Pa)) (SWM.bagAt B i) (SWM.bagAt B c) so).1.map dS) → LD H' y ((SWM.fromC (SWM.lkD (SWM.labs B Pa)) (SWM.bagAt B i) (SWM.bagAt B c) so).2.map dN) →
    New H x → New H y → x ≠ y → H' A.dd = some (.dK (dropK kvs (kI c))) → Q (.ref t) H'
theorem ok_Rows__from_child (T : Txt K mg w) {cL Pt : Addr} (LBh : LB T base cL Pt) : FnOk P w K mg base CX0 3 T.f_Rows__from_child T.fd_Rows__from_child ["self", "at", "child"] (sp_Rows__from_child T.C_Rows Pt) := by
  refine T.F_Rows__from_child.ok sc_Rows__from_child (fun vs H Q E h => ?_) (fun cdv A0 outer s H vs Q E hr h => ?_)
  · obtain ⟨A, n, es, B, Pa, kvs, dn, i, c, so, rfl, _⟩ := h
    rfl
  · obtain ⟨A, n, es, B, Pa, kvs, dn, i, c, so, rfl, rw0, D0, hn, hdd, hdn, hso, hi, hc, hz1, hz2, htab, q⟩ := h
    have hu := hu65 hr
    have hu1 := hu_of hr
    refine ⟨_, PSs.nox (pss_cons (ps_asg (pe_dpop1 (pe_f (C := T.C_Rows) (pv 0) T.cl_Rows T.n_Rows__done) (pv 2) ⟨by rfl, by rfl, by rfl, by rfl⟩) (pg_tup (by rfl) (pgs_cons (pg_name (i := 3) sc_Rows__from_child.nd rfl (Or.inl rfl)) (pgs_cons (pg_name (i := 4) sc_Rows__from_child.nd rfl (Or.inl rfl)) pgs_nil))))
    (pss_cons (ps_asg (pe_tup (pa_cons (pe_ix op_ix (pe_f (C := T.C_Rows) (pv 0) T.cl_Rows T.n_Rows__bags) (pv 1) (fun _ _ => rfl)) (pa_cons (pe_ix op_ix (pe_f (C := T.C_Rows) (pv 0) T.cl_Rows T.n_Rows__bags) (pv 2) (fun _ _ => rfl)) pa_nil))) (pg_tup (by rfl) (pgs_cons (pg_name (i := 5) sc_Rows__from_child.nd rfl (Or.inr rfl)) (pgs_cons (pg_name (i := 6) sc_Rows__from_child.nd rfl (Or.inr rfl)) pgs_nil))))
    (pss_cons (ps_set (i := 3) sc_Rows__from_child.nd rfl (Or.inl rfl) (pe_op op_cat (pv 3) (pe_lc (own := [("v", 8)]) (g := gName 8) rfl sc_Rows__from_child.nd (pi_list (pe_meth (pv 0) T.cl_Rows T.m_Rows__by_labels (ok_Rows__by_labels T LBh) (hr.mono (by decide)) (b_Rows__by_labels T) .nil pass0 (pa_cons (pe_lc (own := [("v", 8)]) (g := gName 8) rfl sc_Rows__from_child.nd (pi_tup (pv 6)) (blkOk_by (N := ["self", "at", "child", "steps", "order", "bag", "below", "fresh", "v"]) (sc := defScope s_Rows__from_child) (by decide +kernel)) (fun _ _ _ _ _ => pg_name (i := 8) sc_Rows__from_child.nd rfl (Or.inl rfl)) (fun _ _ _ _ _ => pts_one (pt_cmpR (op_notInT (Nat.lt_of_succ_lt hu)) (pv 8) (pv 5) (by first | exact nomark _ | with_unfolding_all rfl))) (fun _ _ _ _ _ => (pv 8))) pa_nil))) (blkOk_by (N := ["self", "at", "child", "steps", "order", "bag", "below", "fresh", "v"]) (sc := defScope s_Rows__from_child) (by decide +kernel)) (fun _ _ _ _ _ => pg_name (i := 8) sc_Rows__from_child.nd rfl (Or.inl rfl)) (fun _ _ _ _ _ => pts_nil) (fun _ _ _ _ _ => (pe_tup (pa_cons pe_str (pa_cons (pe_dget hu1 (pe_f (C := T.C_Rows) (pv 0) T.cl_Rows T.n_Rows__labels) (pv 8) (fun _ _ => rfl)) pa_nil)))))))
    (pss_cons (ps_set (i := 7) sc_Rows__from_child.nd rfl (Or.inl rfl) (pe_meth (pv 0) T.cl_Rows T.m_Rows__by_labels (ok_Rows__by_labels T LBh) (hr.mono (by decide)) (b_Rows__by_labels T) .nil pass0 (pa_cons (pe_lc (own := [("v", 8)]) (g := gName 8) rfl sc_Rows__from_child.nd (pi_tup (pv 5)) (blkOk_by (N := ["self", "at", "child", "steps", "order", "bag", "below", "fresh", "v"]) (sc := defScope s_Rows__from_child) (by decide +kernel)) (fun _ _ _ _ _ => pg_name (i := 8) sc_Rows__from_child.nd rfl (Or.inl rfl)) (fun _ _ _ _ _ => pts_one (pt_cmpR (op_notInT (Nat.lt_of_succ_lt hu)) (pv 8) (pv 6) (by first | exact nomark _ | with_unfolding_all rfl))) (fun _ _ _ _ _ => (pv 8))) pa_nil)))
    (pss_one (ps_ret (pe_tup (pa_cons (pe_op op_cat (pv 3) (pe_lc (own := [("v", 8)]) (g := gName 8) rfl sc_Rows__from_child.nd (pi_list (pv 7)) (blkOk_by (N := ["self", "at", "child", "steps", "order", "bag", "below", "fresh", "v"]) (sc := defScope s_Rows__from_child) (by decide +kernel)) (fun _ _ _ _ _ => pg_name (i := 8) sc_Rows__from_child.nd rfl (Or.inl rfl)) (fun _ _ _ _ _ => pts_nil) (fun _ _ _ _ _ => (pe_tup (pa_cons pe_str (pa_cons (pe_dget hu1 (pe_f (C := T.C_Rows) (pv 0) T.cl_Rows T.n_Rows__labels) (pv 8) (fun _ _ => rfl)) pa_nil)))))) (pa_cons (pe_op op_cat (pv 4) (pv 7)) pa_nil)))))))))
    , ?_⟩
    obtain ⟨fs, hp, rf⟩ := id rw0.ins
    obtain ⟨t, x, y, hv, ht, hx, hy⟩ := (hdn c).2 so hso
    have ap := rw0.apart hdd
    have ntd : t ≠ A.dd := ne_of ht hdd (by intro z; cases z)
    have nxd : x ≠ A.dd := by
      obtain ⟨xs, e, _⟩ := hx
      exact ne_of e hdd (by intro z; cases z)
    have nyd : y ≠ A.dd := by
      obtain ⟨xs, e, _⟩ := hy
      exact ne_of e hdd (by intro z; cases z)
    refine ⟨_, rfl, _, _, _, _, rfl, hp, rf.don, A.dd, rfl, .inl ⟨kvs, .inl hdd⟩, _, rfl, kvs, kI c, _, hdd, rfl, hv, ?_⟩
    have f1 : Fr Pt [A.dd] H (upd H A.dd (.dK (dropK kvs (kI c)))) := (Fr.refl htab).put (by simp) hdd (fun _ z => by cases z) NT.dK (fun _ z => by cases z)
    refine ⟨_, _, rfl, SqT.of (f1.t _ _ ht), rfl, _, _, rfl, _, _, rfl, rfl, ?_⟩
    have d1 : (upd H A.dd (.dK (dropK kvs (kI c)))) A.dd = some (.dK (dropK kvs (kI c))) := upd_same
    generalize upd H A.dd (.dK (dropK kvs (kI c))) = H1 at f1 d1 ⊢
    have rw1 := rw0.fr f1 ap
    have hp1 := f1.at_ _ _ ap.p hp NT.ins
    have hx1 := LD.fr hx f1 (by simpa using nxd)
    have hy1 := LD.fr hy f1 (by simpa using nyd)
    -- bag, below
    obtain ⟨bs, bv, hb1, hbl, hbv, hbt⟩ := bag_get rw1.bags hi
    obtain ⟨bs', cv, hb1', hbl', hcv, hct⟩ := bag_get rw1.bags hc
    have ebs : bs' = bs := by
      rw [hb1] at hb1'
      cases hb1'
      rfl
    subst ebs
    obtain ⟨ba, rfl, hba⟩ := hbt.natsI
    obtain ⟨ca, rfl, hca⟩ := hct.natsI
    refine ⟨_, rfl, _, _, _, _, rfl, hp1, rf.bags, _, rfl, _, _, _, _, rfl, rfl, .inr hb1, atI_nat hbv, _, rfl, _, _, _, _, rfl, hp1, rf.bags, _, rfl, _, _, _, _, rfl, rfl, .inr hb1, atI_nat hcv, two_line, fun t2 ht2 => ⟨_, _, rfl, SqT.of upd_same, rfl, _, _, rfl, _, _, rfl, rfl, ?_⟩⟩
    have f2 : Fr Pt [] H1 (upd H1 t2 (.tup [.ref ba, .ref ca])) := (Fr.refl f1.tab).new ht2
    generalize upd H1 t2 (.tup [.ref ba, .ref ca]) = H2 at f2 ⊢
    have hba2 := f2.t _ _ hba
    have hca2 := f2.t _ _ hca
    have hmb : ∀ v ∈ SWM.bagAt B i, v ∈ (SWM.labs B Pa).map (·.1) := fun v hv => lab_mem D0 hi hv
    have hmc : ∀ v ∈ SWM.bagAt B c, v ∈ (SWM.labs B Pa).map (·.1) := fun v hv => lab_mem D0 hc hv
    have hlb : (SWM.bagAt B i).length ≤ n := dec_len (D0.mem _ (bagAt_mem hi)) (D0.asc _ (bagAt_mem hi))
    have hlc : (SWM.bagAt B c).length ≤ n := dec_len (D0.mem _ (bagAt_mem hc)) (D0.asc _ (bagAt_mem hc))
    generalize hbe : SWM.bagAt B i = bag at hba2 hca2 hmb hlb q
    generalize hce : SWM.bagAt B c = below at hba2 hca2 hmc hlc q
    -- steps + [("forget", ..) ..]
    refine ⟨_, rfl, ?_⟩
    refine ⟨_, rfl, A.p, _, _, rfl, f2.at_ _ _ (by simp) hp1 NT.ins, rf.no1 "_by_labels" (by simp), ?_⟩
    refine ⟨_, rfl, ca, rfl, ⟨_, SqT.of hca2⟩, fun D hD => lc_td (walk_tup (xs := below.map vN)) hD (outF below (fun v => decide (¬ v ∈ bag)) dN) outF_0 (fun H h => SqT.of (h _ _ hca2)) ?_ ?_⟩
    · rintro j z H3 H3' hj pl ⟨rfl, hz⟩
      obtain ⟨v, hv, rfl⟩ := map_at hz
      refine ⟨rfl, _, rfl, _, rfl, dN v, bag.map dN, .int _, TD.ofNats (pl.1 _ _ hba2), Nice.of (ni_N _) (by decide), ⟨(niceAll_map ni_N _).lay, Nat.le_trans (niceAll_map ni_N _).dep (by decide)⟩, _, rfl, ?_⟩
      rw [any_map eqv_N]
      by_cases e : v ∈ bag
      · rw [decide_eq_true e]
        refine iteF ?_
        rw [outF_no hv (decide_eq_false (fun z => z e))]
        exact pl
      · rw [decide_eq_false e]
        refine iteT ⟨_, rfl, ?_⟩
        rw [outF_yes hv (decide_eq_true e)]
        exact pl.add hD (Same.refl _) (.int _) (lt_line (Nat.le_trans outF_len (by omega)))
    · intro H3 pl
      rw [show (below.map vN).length = below.length by simp, outF_all] at pl
      have f3 : Fr Pt [] H1 H3 := f2.same pl.1
      have hD3 := pl.nats
      have rw3 := rw1.fr f3 (apart_nil A)
      have hp3 := f3.at_ _ _ (by simp) hp1 NT.ins
      have hmem : ∀ v ∈ below.filter (fun v => decide (¬ v ∈ bag)), v ∈ (SWM.labs B Pa).map (·.1) := fun v hv => hmc v (List.mem_filter.mp hv).1
      have hfl : (below.filter (fun v => decide (¬ v ∈ bag))).length ≤ 1000 := Nat.le_trans (List.length_filter_le _ _) (by omega)
      refine ⟨A.p, D, A.dx, A.dl, fs, _, SWM.labs B Pa, rfl, .inl hD3, f3.tab, hp3, rf.labs, rw3.lab, hmem, fun H4 q4 f4 n4 hq4 => ?_⟩
      have f14 := f3.trans f4
      have rw4 := rw1.fr f14 (apart_nil A)
      have hp4 := f14.at_ _ _ (by simp) hp1 NT.ins
      generalize hF1 : below.filter (fun v => decide (¬ v ∈ bag)) = F1 at hmem hfl hq4
      generalize hLe : SWM.lkD (SWM.labs B Pa) = L at hq4 q
      refine ⟨q4, rfl, ⟨_, SqL.of hq4⟩, fun D5 hD5 => lc_td (walk_list (xs := (SWM.byL L F1).map vN)) hD5 (outM (SWM.byL L F1) (fun v => dS (.forget (L v)))) outM_0 (fun H h => SqL.of (h _ _ hq4)) ?_ ?_⟩
      · rintro j z H5 H5' hj pl5 ⟨rfl, hz⟩
        obtain ⟨v, hv, rfl⟩ := map_at hz
        have hvm := hmem v (SWM.mem_byL.mp (List.mem_of_getElem? hv))
        refine ⟨rfl, _, rfl, _, _, _, _, rfl, pl5.1 _ _ hp4, rf.labs, _, rfl, A.dl, _, rfl, dget (.inl (pl5.1 _ _ rw4.lab)) hvm, two_line, fun t5 ht5 => ?_⟩
        rw [hLe, outM_yes hv]
        exact pl5.add hD5 (same_new ht5) (TD.ofStep (s := .forget (L v)) upd_same) (lt_line (Nat.le_trans outM_len (by rw [byL_len2]; omega)))
      · intro H5 pl5
        rw [show ((SWM.byL L F1).map vN).length = (SWM.byL L F1).length by simp, outM_all] at pl5
        obtain ⟨ws, hw0, hwd⟩ := pl5.2
        have f5 := f14.same pl5.1
        obtain ⟨xs, hx5, hxd5⟩ := LD.fr hx1 f5 (by simp)
        have hxl : xs.length = so.1.length := by rw [hxd5.length]; simp
        have hwl : ws.length ≤ 1000 := by rw [hwd.length, List.length_map, byL_len2]; exact hfl
        refine ⟨x, D5, _, _, rfl, rfl, hx5, hw0, le_line (by omega), fun p6 hp6 => ?_⟩
        have f6 := f5.new (u := .lst (xs ++ ws)) hp6
        have l6 : LD (upd H5 p6 (.lst (xs ++ ws))) p6 ((so.1 ++ (SWM.byL L F1).map (fun v => SWM.Stp.forget (L v))).map dS) := ⟨_, upd_same, by
          rw [List.map_append, List.map_map]
          exact (hxd5.append hwd).mono (Same.t (same_new hp6))⟩
        generalize upd H5 p6 (.lst (xs ++ ws)) = H6 at f6 l6 ⊢
        have hba6 := f6.t _ _ hba
        have hca6 := f6.t _ _ hca
        rw [hbe] at hba6
        rw [hce] at hca6
        -- fresh
        refine ⟨_, rfl, A.p, _, _, rfl, f6.at_ _ _ (by simp) hp1 NT.ins, rf.no1 "_by_labels" (by simp), ?_⟩
        refine ⟨_, rfl, ba, rfl, ⟨_, SqT.of hba6⟩, fun D7 hD7 => lc_td (walk_tup (xs := bag.map vN)) hD7 (outF bag (fun v => decide (¬ v ∈ below)) dN) outF_0 (fun H h => SqT.of (h _ _ hba6)) ?_ ?_⟩
        · rintro j z H7 H7' hj pl7 ⟨rfl, hz⟩
          obtain ⟨v, hv, rfl⟩ := map_at hz
          refine ⟨rfl, _, rfl, _, rfl, dN v, below.map dN, .int _, TD.ofNats (pl7.1 _ _ hca6), Nice.of (ni_N _) (by decide), ⟨(niceAll_map ni_N _).lay, Nat.le_trans (niceAll_map ni_N _).dep (by decide)⟩, _, rfl, ?_⟩
          rw [any_map eqv_N]
          by_cases e : v ∈ below
          · rw [decide_eq_true e]
            refine iteF ?_
            rw [outF_no hv (decide_eq_false (fun z => z e))]
            exact pl7
          · rw [decide_eq_false e]
            refine iteT ⟨_, rfl, ?_⟩
            rw [outF_yes hv (decide_eq_true e)]
            exact pl7.add hD7 (Same.refl _) (.int _) (lt_line (Nat.le_trans outF_len (by omega)))
        · intro H7 pl7
          rw [show (bag.map vN).length = bag.length by simp, outF_all] at pl7
          have f7 := f6.same pl7.1
          have rw7 := rw1.fr f7 (apart_nil A)
          have hp7 := f7.at_ _ _ (by simp) hp1 NT.ins
          have l7 := LD.same l6 pl7.1
          have hmem2 : ∀ v ∈ bag.filter (fun v => decide (¬ v ∈ below)), v ∈ (SWM.labs B Pa).map (·.1) := fun v hv => hmb v (List.mem_filter.mp hv).1
          have hfl2 : (bag.filter (fun v => decide (¬ v ∈ below))).length ≤ 1000 := Nat.le_trans (List.length_filter_le _ _) (by omega)
          refine ⟨A.p, D7, A.dx, A.dl, fs, _, SWM.labs B Pa, rfl, .inl pl7.nats, f7.tab, hp7, rf.labs, rw7.lab, hmem2, fun H8 q8 f8 n8 hq8 => ?_⟩
          have f18 := f7.trans f8
          have rw8 := rw1.fr f18 (apart_nil A)
          have hp8 := f18.at_ _ _ (by simp) hp1 NT.ins
          have l8 := LD.fr l7 f8 (by simp)
          generalize hF2 : bag.filter (fun v => decide (¬ v ∈ below)) = F2 at hmem2 hfl2 hq8
          rw [hLe] at hq8
          -- return
          refine ⟨_, rfl, _, rfl, q8, rfl, ⟨_, SqL.of hq8⟩, fun D9 hD9 => lc_td (walk_list (xs := (SWM.byL L F2).map vN)) hD9 (outM (SWM.byL L F2) (fun v => dS (.new (L v)))) outM_0 (fun H h => SqL.of (h _ _ hq8)) ?_ ?_⟩
          · rintro j z H9 H9' hj pl9 ⟨rfl, hz⟩
            obtain ⟨v, hv, rfl⟩ := map_at hz
            have hvm := hmem2 v (SWM.mem_byL.mp (List.mem_of_getElem? hv))
            refine ⟨rfl, _, rfl, _, _, _, _, rfl, pl9.1 _ _ hp8, rf.labs, _, rfl, A.dl, _, rfl, dget (.inl (pl9.1 _ _ rw8.lab)) hvm, two_line, fun t9 ht9 => ?_⟩
            rw [hLe, outM_yes hv]
            exact pl9.add hD9 (same_new ht9) (TD.ofStep (s := .new (L v)) upd_same) (lt_line (Nat.le_trans outM_len (by rw [byL_len2]; omega)))
          · intro H9 pl9
            rw [show ((SWM.byL L F2).map vN).length = (SWM.byL L F2).length by simp, outM_all] at pl9
            obtain ⟨us, hu0, hud⟩ := pl9.2
            have f9 := f18.same pl9.1
            obtain ⟨zs, hz9, hzd9⟩ := LD.same l8 pl9.1
            have hzl : zs.length ≤ so.1.length + 1000 := by rw [hzd9.length, List.length_map, List.length_append, List.length_map, byL_len2]; omega
            have hul : us.length ≤ 1000 := by rw [hud.length, List.length_map, byL_len2]; exact hfl2
            refine ⟨p6, D9, _, _, rfl, rfl, hz9, hu0, le_line (by omega), fun p10 hp10 => ?_⟩
            have f10 := f9.new (u := .lst (zs ++ us)) hp10
            have l10 : LD (upd H9 p10 (.lst (zs ++ us))) p10 (((so.1 ++ (SWM.byL L F1).map (fun v => SWM.Stp.forget (L v))) ++ (SWM.byL L F2).map (fun v => SWM.Stp.new (L v))).map dS) := ⟨_, upd_same, by
              rw [List.map_append, List.map_map]
              exact (hzd9.append hud).mono (Same.t (same_new hp10))⟩
            have hq10 : (upd H9 p10 (.lst (zs ++ us))) q8 = some (.lst ((SWM.byL L F2).map vN)) := same_new hp10 _ _ (pl9.1 _ _ hq8)
            obtain ⟨ys, hy10, hyd10⟩ := LD.fr hy1 f10 (by simp)
            have hyl : ys.length = so.2.length := by rw [hyd10.length]; simp
            refine ⟨_, rfl, _, rfl, y, q8, _, _, rfl, rfl, hy10, hq10, le_line (by rw [List.length_map, byL_len2]; omega), fun p11 hp11 => ?_⟩
            have f11 := f10.new (u := .lst (ys ++ (SWM.byL L F2).map vN)) hp11
            have l11 : LD (upd (upd H9 p10 (.lst (zs ++ us))) p11 (.lst (ys ++ (SWM.byL L F2).map vN))) p11 ((so.2 ++ SWM.byL L F2).map dN) := ⟨_, upd_same, by
              rw [List.map_append]
              exact (hyd10.append (.ofNats _)).mono (Same.t (same_new hp11))⟩
            have l10' := LD.same l10 (same_new (o := .lst (ys ++ (SWM.byL L F2).map vN)) hp11)
            refine ⟨two_line, fun t12 ht12 => ?_⟩
            have s12 := same_new (o := .tup [.ref p10, .ref p11]) ht12
            have f12 := f11.same s12
            have n10 := New.back f9 (New.of hp10) (by simp)
            have n11 := New.back f10 (New.of hp11) (by simp)
            refine q _ t12 p10 p11 (f1.trans (f12.sub (by simp))) upd_same ?_ ?_ (New.back f1 n10 ?_) (New.back f1 n11 ?_) (upd_none hp11).1.symm (f12.at_ _ _ (by simp) d1 NT.dK)
            · subst hF1 hF2
              exact LD.same l10' s12
            · subst hF2
              exact LD.same l11 s12
            · simpa using (n10.ne d1 NT.dK).symm
            · simpa using (n11.ne d1 NT.dK).symm
end
end SW


set_option maxRecDepth 100000
set_option maxHeartbeats 2000000
/-! Rows.do. -/
namespace SW
open PySem PySem.Spec PyProof.Rows L2
theorem valV_dropK {κ : Type} [DecidableEq κ] (kvs : List (κ × V)) (k j : κ) : valV (dropK kvs k) j = if j = k then none else valV kvs j := by
  induction kvs with
  | nil => simp [dropK, valV]
  | cons p r ih =>
    by_cases e : p.1 = k
    · have e1 : dropK (p :: r) k = dropK r k := by
        unfold dropK
        rw [List.filter_cons, if_neg (by simp [e])]
      rw [e1, ih]
      by_cases h : j = k
      · rw [if_pos h, if_pos h]
      · rw [if_neg h, if_neg h, valV_neg (fun z => h (z.symm.trans e))]
    · have e1 : dropK (p :: r) k = p :: dropK r k := by
        unfold dropK
        rw [List.filter_cons, if_pos (by simp [e])]
      rw [e1]
      by_cases h : p.1 = j
      · rw [valV_pos h, valV_pos h, if_neg (fun z => e (h.trans z))]
      · rw [valV_neg h, valV_neg h, ih]
theorem DnOk.drop {H : Hp} {kvs : List (Key × V)} {dn dn' : Nat → Option SWM.SO} (h : DnOk H kvs dn) (c : Nat) (e : ∀ j, dn' j = if j = c then none else dn j) : DnOk H (dropK kvs (kI c)) dn' := fun j => by
  rw [e j, valV_dropK]
  by_cases z : j = c
  · rw [if_pos z, if_pos (by rw [z])]
    exact ⟨fun _ => rfl, fun so q => by cases q⟩
  · rw [if_neg z, if_neg (fun q => z (kI_inj.mp q))]
    exact h j
theorem DnOk.put {H : Hp} {kvs : List (Key × V)} {dn dn' : Nat → Option SWM.SO} (h : DnOk H kvs dn) {c : Nat} {so : SWM.SO} {t x y : Addr} (ht : H t = some (.tup [.ref x, .ref y])) (hx : LD H x (so.1.map dS)) (hy : LD H y (so.2.map dN)) (e : ∀ j, dn' j = if j = c then some so else dn j) :
    DnOk H (putK kvs (kI c) (.ref t)) dn' := fun j => by
  rw [e j, valV_put]
  by_cases z : j = c
  · rw [if_pos z, if_pos (by rw [z])]
    exact ⟨fun q => (by cases q), fun so' q => by cases q; exact ⟨t, x, y, rfl, ht, hx, hy⟩⟩
  · rw [if_neg z, if_neg (fun q => z (kI_inj.mp q))]
    exact h j
theorem DnOk.congr {H : Hp} {kvs : List (Key × V)} {dn dn' : Nat → Option SWM.SO} (h : DnOk H kvs dn) (e : ∀ j, dn' j = dn j) : DnOk H kvs dn' := fun j => by rw [e j]; exact h j
/-- the children up to the j-th -/
def kidsSO (Pa : List Int) (B : List (List Nat)) (R : Nat → SWM.SO) (i j : Nat) : List (List Nat × SWM.SO) := ((SWM.kids Pa B.length i).take j).map fun c => (SWM.bagAt B c, R c)
theorem childSO_snoc (L : Nat → Nat) (bag : List Nat) (a : List (List Nat × SWM.SO)) (d : List Nat × SWM.SO) : SWM.childSO L bag (a ++ [d]) = if a = [] then SWM.fromC L bag d.1 d.2 else SWM.addC bag (SWM.childSO L bag a) (SWM.fromC L bag d.1 d.2) := by
  cases a with
  | nil => rfl
  | cons c r =>
    rw [if_neg (by simp)]
    show List.foldl _ _ (r ++ [d]) = _
    rw [List.foldl_append]; rfl
theorem addC_le (bag : List Nat) (x y : SWM.SO) : x.1.length ≤ (SWM.addC bag x y).1.length ∧ x.2.length ≤ (SWM.addC bag x y).2.length := by
  rw [SWM.addC_len]
  refine ⟨by omega, ?_⟩
  show _ ≤ (x.2 ++ _).length
  rw [List.length_append]; omega
theorem childSO_mono (L : Nat → Nat) (bag : List Nat) : ∀ (b a : List (List Nat × SWM.SO)), a ≠ [] → (SWM.childSO L bag a).1.length ≤ (SWM.childSO L bag (a ++ b)).1.length ∧ (SWM.childSO L bag a).2.length ≤ (SWM.childSO L bag (a ++ b)).2.length
  | [], a, _ => by rw [List.append_nil]; exact ⟨Nat.le_refl _, Nat.le_refl _⟩
  | d :: b, a, h => by
    have h1 := childSO_mono L bag b (a ++ [d]) (by simp)
    rw [List.append_assoc, List.singleton_append] at h1
    have h2 := addC_le bag (SWM.childSO L bag a) (SWM.fromC L bag d.1 d.2)
    have e : SWM.childSO L bag (a ++ [d]) = SWM.addC bag (SWM.childSO L bag a) (SWM.fromC L bag d.1 d.2) := by rw [childSO_snoc, if_neg h]
    rw [e] at h1
    exact ⟨Nat.le_trans h2.1 h1.1, Nat.le_trans h2.2 h1.2⟩
section
variable {P : Program} {w : World} {K : PySem.W.Frag} {mg : Str → Option Value} {base : Heap}
def sp_Rows_do (C Pt : Addr) : Sp := fun vs H Q _ => ∃ (A : RA) (n : Nat) (es : List (Nat × Nat)) (B : List (List Nat)) (Pa : List Int) (kvs : List (Key × V)) (dn : Nat → Option SWM.SO) (i : Nat) (R : Nat → SWM.SO), vs = [.ref A.p, vN i] ∧ RwAt C H A es B Pa ∧ SWM.Dec n es B Pa ∧ n ≤ 1000 ∧
  H A.dd = some (.dK kvs) ∧ kvs.length ≤ 200000 ∧ DnOk H kvs dn ∧ (∀ c ∈ SWM.kids Pa B.length i, dn c = some (R c) ∧ (R c).1.length ≤ 20000 ∧ (R c).2.length ≤ 20000) ∧ i < B.length ∧ B.length ≤ 100000 ∧
  R i = SWM.doSO (SWM.lkD (SWM.labs B Pa)) (SWM.bagAt B i) (SWM.rowE (SWM.lkD (SWM.labs B Pa)) B es i) (kidsSO Pa B R i (SWM.kids Pa B.length i).length) ∧ (R i).1.length ≤ 20000 ∧ (R i).2.length ≤ 20000 ∧ LamX.Tabs (TL Pt) H ∧
  ∀ H' kvs', Fr Pt [A.dd] H H' → H' A.dd = some (.dK kvs') → kvs'.length ≤ kvs.length + 1 → DnOk H' kvs' (fun c => if c = i then some (R i) else if c ∈ SWM.kids Pa B.length i then none else dn c) → Q .non H'
theorem ok_Rows_do (T : Txt K mg w) {cL Pt : Addr} (LBh : LB T base cL Pt) : FnOk P w K mg base CX0 4 T.f_Rows_do T.fd_Rows_do ["self", "at"] (sp_Rows_do T.C_Rows Pt) := by
  refine T.F_Rows_do.ok sc_Rows_do (fun vs H Q E h => ?_) (fun cdv A0 outer s H vs Q E hr h => ?_)
  · obtain ⟨A, n, es, B, Pa, kvs, dn, i, R, rfl, _⟩ := h
    rfl
  · obtain ⟨A, n, es, B, Pa, kvs, dn, i, R, rfl, rw0, D0, hn, hdd, hkl, hdn, hR, hi, hB, hRi, hz1, hz2, htab, q⟩ := h
    have hu := hu65 hr
    have hu1 := hu_of hr
    obtain ⟨t1, h_MOST_STEPS⟩ := T.i_MOST_STEPS
    refine ⟨_, PSs.nox (pss_cons (ps_set (i := 2) sc_Rows_do.nd rfl (Or.inr rfl) (pe_ix op_ix (pe_f (C := T.C_Rows) (pv 0) T.cl_Rows T.n_Rows__bags) (pv 1) (fun _ _ => rfl)))
    (pss_cons (ps_set (i := 3) sc_Rows_do.nd rfl (Or.inl rfl) (pe_meth (pv 0) T.cl_Rows T.m_Rows__by_labels (ok_Rows__by_labels T LBh) (hr.mono (by decide)) (b_Rows__by_labels T) .nil pass0 (pa_cons (pv 2) pa_nil)))
    (pss_cons (ps_par (i := 4) (j := 5) (by rfl) sc_Rows_do.nd rfl rfl (by decide) rfl rfl (pa_cons (pe_op op_cat (pe_lst (pa_cons (pe_tup (pa_cons pe_str pa_nil)) pa_nil)) (pe_lc (own := [("v", 10)]) (g := gName 10) rfl sc_Rows_do.nd (pi_list (pv 3)) (blkOk_by (N := ["self", "at", "bag", "fresh", "steps", "order", "place", "child", "more", "others", "v", "pair"]) (sc := defScope s_Rows_do) (by decide +kernel)) (fun _ _ _ _ _ => pg_name (i := 10) sc_Rows_do.nd rfl (Or.inl rfl)) (fun _ _ _ _ _ => pts_nil) (fun _ _ _ _ _ => (pe_tup (pa_cons pe_str (pa_cons (pe_dget hu1 (pe_f (C := T.C_Rows) (pv 0) T.cl_Rows T.n_Rows__labels) (pv 10) (fun _ _ => rfl)) pa_nil)))))) (pa_cons (pe_callTy cr_lst rfl T.z_list boot_list (pa_cons (pv 3) pa_nil)) pa_nil)) (by rfl))
    (pss_cons (ps_for PassesOwn.never rfl (pi_enum rfl T.z_enumerate (pa_cons (pe_ix op_ix (pe_f (C := T.C_Rows) (pv 0) T.cl_Rows T.n_Rows__children) (pv 1) (fun _ _ => rfl)) pa_nil)) (pg_tup rfl (pgs_cons (pg_name (i := 6) sc_Rows_do.nd rfl (Or.inl rfl)) (pgs_cons (pg_name (i := 7) sc_Rows_do.nd rfl (Or.inl rfl)) pgs_nil)))
    (pss_cons (ps_asg (pe_meth (pv 0) T.cl_Rows T.m_Rows__from_child (ok_Rows__from_child T LBh) (hr.mono (by decide)) (b_Rows__from_child T) .nil pass0 (pa_cons (pv 1) (pa_cons (pv 7) pa_nil))) (pg_tup (by rfl) (pgs_cons (pg_name (i := 8) sc_Rows_do.nd rfl (Or.inl rfl)) (pgs_cons (pg_name (i := 9) sc_Rows_do.nd rfl (Or.inl rfl)) pgs_nil))))
    (pss_cut (ps_if (pt_cmpR op_eq (pv 6) pe_int (by first | exact nomark _ | with_unfolding_all rfl))
    (pss_one (ps_par (i := 4) (j := 5) (by rfl) sc_Rows_do.nd rfl rfl (by decide) rfl rfl (pa_cons (pv 8) (pa_cons (pv 9) pa_nil)) (by rfl)))
    (pss_cons (ps_expr (pe_bm PySem.F.plainAttrs_list PySem.F.slot_list_extend PySem.F.type_list_extend mt_extend (pv 4) (pa_cons (pe_op op_cat (pv 8) (pe_lst (pa_cons (pe_tup (pa_cons pe_str pa_nil)) pa_nil))) pa_nil)))
    (pss_one (ps_expr (pe_bm PySem.F.plainAttrs_list PySem.F.slot_list_extend PySem.F.type_list_extend mt_extend (pv 5) (pa_cons (pe_lc (own := [("v", 10)]) (g := gName 10) rfl sc_Rows_do.nd (pi_list (pv 9)) (blkOk_by (N := ["self", "at", "bag", "fresh", "steps", "order", "place", "child", "more", "others", "v", "pair"]) (sc := defScope s_Rows_do) (by decide +kernel)) (fun _ _ _ _ _ => pg_name (i := 10) sc_Rows_do.nd rfl (Or.inl rfl)) (fun _ _ _ _ _ => pts_one (pt_cmpR (op_notInT (Nat.lt_of_succ_lt hu)) (pv 10) (pv 2) (by first | exact nomark _ | with_unfolding_all rfl))) (fun _ _ _ _ _ => (pv 10))) pa_nil))))))
    (pss_one (ps_if (pt_cmpR op_gt (pe_callB cr_len rfl T.z_len boot_len (pa_cons (pv 4) pa_nil)) (pe_glob (v := .int 20000) rfl h_MOST_STEPS ⟨_, rfl⟩) (by first | exact nomark _ | with_unfolding_all rfl))
    (pss_one ps_never)
    pss_nil)))))
    (pss_cons (ps_expr (pe_bm PySem.F.plainAttrs_list PySem.F.slot_list_extend PySem.F.type_list_extend mt_extend (pv 4) (pa_cons (pe_lc (own := [("pair", 11)]) (g := gName 11) rfl sc_Rows_do.nd (pi_list (pe_ix op_ix (pe_f (C := T.C_Rows) (pv 0) T.cl_Rows T.n_Rows__edges) (pv 1) (fun _ _ => rfl))) (blkOk_by (N := ["self", "at", "bag", "fresh", "steps", "order", "place", "child", "more", "others", "v", "pair"]) (sc := defScope s_Rows_do) (by decide +kernel)) (fun _ _ _ _ _ => pg_name (i := 11) sc_Rows_do.nd rfl (Or.inl rfl)) (fun _ _ _ _ _ => pts_nil) (fun _ _ _ _ _ => (pe_op op_catTup (pe_tup (pa_cons pe_str pa_nil)) (pv 11)))) pa_nil)))
    (pss_one (ps_dput hu1 (pe_f (C := T.C_Rows) (pv 0) T.cl_Rows T.n_Rows__done) (pv 1) (pe_tup (pa_cons (pv 4) (pa_cons (pv 5) pa_nil))) rfl)))))))
    , ?_⟩
    obtain ⟨fs, hp, rf⟩ := id rw0.ins
    have ap := rw0.apart hdd
    have fr0 : Fr Pt [A.dd] H H := Fr.refl htab
    -- bag
    obtain ⟨bs, bv, hb, hbl, hbv, hbt⟩ := bag_get rw0.bags hi
    obtain ⟨ba, rfl, hba⟩ := hbt.natsI
    refine ⟨_, rfl, _, _, _, _, rfl, hp, rf.bags, _, rfl, _, _, _, _, rfl, rfl, .inr hb, atI_nat hbv, ?_⟩
    have hmb : ∀ v ∈ SWM.bagAt B i, v ∈ (SWM.labs B Pa).map (·.1) := fun v hv => lab_mem D0 hi hv
    have hlb : (SWM.bagAt B i).length ≤ n := dec_len (D0.mem _ (bagAt_mem hi)) (D0.asc _ (bagAt_mem hi))
    generalize hbe : SWM.bagAt B i = bag at hba hmb hlb hRi
    -- fresh
    refine ⟨_, rfl, A.p, _, _, rfl, hp, rf.no1 "_by_labels" (by simp), _, rfl, A.p, ba, A.dx, A.dl, fs, bag, SWM.labs B Pa, rfl, .inr hba, htab, hp, rf.labs, rw0.lab, hmb, fun H1 q1 f1 n1 hq1 => ?_⟩
    have rw1 := rw0.fr f1 (apart_nil A)
    have hp1 := f1.at_ _ _ (by simp) hp NT.ins
    generalize hLe : SWM.lkD (SWM.labs B Pa) = L at hq1 hRi
    have hbl2 : (SWM.byL L bag).length = bag.length := byL_len2 _ _
    -- steps, order
    refine ⟨one_line, fun t2 ht2 => ⟨one_line, fun p3 hp3 => ?_⟩⟩
    have s2 := same_new (o := .tup [.str "empty"]) ht2
    have s3 := same_new (o := .lst [.ref t2]) hp3
    have s23 := s2.trans s3
    have f3 := f1.same s23
    have l3 : LD (upd (upd H1 t2 (.tup [.str "empty"])) p3 (.lst [.ref t2])) p3 ([SWM.Stp.empty].map dS) := ⟨_, upd_same, .cons (TD.ofStep (s := .empty) (s3 _ _ upd_same)) .nil⟩
    have hq3 := s23 _ _ hq1
    generalize upd (upd H1 t2 (.tup [.str "empty"])) p3 (.lst [.ref t2]) = H3 at s23 f3 l3 hq3 ⊢
    have rw3 := rw0.fr f3 (apart_nil A)
    have hp3' := f3.at_ _ _ (by simp) hp NT.ins
    refine ⟨_, rfl, q1, rfl, ⟨_, SqL.of hq3⟩, fun D4 hD4 => lc_td (walk_list (xs := (SWM.byL L bag).map vN)) hD4 (outM (SWM.byL L bag) (fun v => dS (.new (L v)))) outM_0 (fun H h => SqL.of (h _ _ hq3)) ?_ ?_⟩
    · rintro j z H4 H4' hj pl ⟨rfl, hz⟩
      obtain ⟨v, hv, rfl⟩ := map_at hz
      have hvm := hmb v (SWM.mem_byL.mp (List.mem_of_getElem? hv))
      refine ⟨rfl, _, rfl, _, _, _, _, rfl, pl.1 _ _ hp3', rf.labs, _, rfl, A.dl, _, rfl, dget (.inl (pl.1 _ _ rw3.lab)) hvm, two_line, fun t4 ht4 => ?_⟩
      rw [hLe, outM_yes hv]
      exact pl.add hD4 (same_new ht4) (TD.ofStep (s := .new (L v)) upd_same) (lt_line (Nat.le_trans outM_len (by omega)))
    · intro H4 pl
      rw [show ((SWM.byL L bag).map vN).length = (SWM.byL L bag).length by simp, outM_all] at pl
      obtain ⟨ws, hw0, hwd⟩ := pl.2
      have f4 := f3.same pl.1
      obtain ⟨xs, hx4, hxd⟩ := LD.same l3 pl.1
      have hxl : xs.length = 1 := by rw [hxd.length]; rfl
      have hwl : ws.length ≤ 1000 := by rw [hwd.length, List.length_map, hbl2]; omega
      refine ⟨p3, D4, _, _, rfl, rfl, hx4, hw0, le_line (by omega), fun p5 hp5 => ?_⟩
      have s5 := same_new (o := .lst (xs ++ ws)) hp5
      have f5 := f4.same s5
      have l5 : LD (upd H4 p5 (.lst (xs ++ ws))) p5 ((SWM.leafSO L bag).1.map dS) := ⟨_, upd_same, by
        have e : (SWM.leafSO L bag).1.map dS = [SWM.Stp.empty].map dS ++ (SWM.byL L bag).map (fun v => dS (.new (L v))) := by simp [SWM.leafSO]
        rw [e]
        exact (hxd.append hwd).mono (Same.t s5)⟩
      have hq5 := s5 _ _ (pl.1 _ _ hq3)
      generalize upd H4 p5 (.lst (xs ++ ws)) = H5 at s5 f5 l5 hq5 ⊢
      refine ⟨_, rfl, q1, _, rfl, .inl hq5, fun p6 hp6 => ⟨_, _, rfl, ?_⟩⟩
      have s6 := same_new (o := .lst ((SWM.byL L bag).map vN)) hp6
      have f6 := f5.same s6
      have l6 := LD.same l5 s6
      have m6 : LD (upd H5 p6 (.lst ((SWM.byL L bag).map vN))) p6 ((SWM.leafSO L bag).2.map dN) := LD.ofNats upd_same
      have n5 : New H p5 := New.back f4 (New.of hp5) (by simp)
      have n6 : New H p6 := New.back f5 (New.of hp6) (by simp)
      have n56 : p5 ≠ p6 := by
        obtain ⟨_, e, _⟩ := l5
        exact ne_of_none e hp6
      generalize upd H5 p6 (.lst ((SWM.byL L bag).map vN)) = H6 at s6 f6 l6 m6 ⊢
      have rw6 := rw0.fr f6 (apart_nil A)
      have hp6' := f6.at_ _ _ (by simp) hp NT.ins
      -- the children
      obtain ⟨rk, hrk⟩ : ∃ r, A.rc[i]? = some r := ⟨_, List.getElem?_eq_getElem (by rw [rw0.kid.len]; exact hi)⟩
      have hkr : H rk = some (.lst ((SWM.kids Pa B.length i).map vN)) := LD.nats (rw0.kid.row i rk hrk)
      have nrk := ap.rc rk (List.mem_of_getElem? hrk)
      have hks : ∀ c ∈ SWM.kids Pa B.length i, c < B.length := fun c hc => (SWM.mem_kids.mp hc).1
      have hknd : (SWM.kids Pa B.length i).Nodup := SWM.nodup_of_lt (SWM.kids_lt Pa B.length i)
      have hkll : (SWM.kids Pa B.length i).length ≤ B.length := by
        unfold SWM.kids
        exact Nat.le_trans (List.length_filter_le _ _) (by rw [List.length_range]; exact Nat.le_refl _)
      have hfull : ∀ j, ((SWM.childSO L bag (kidsSO Pa B R i (j + 1))).1.length ≤ (SWM.childSO L bag (kidsSO Pa B R i (SWM.kids Pa B.length i).length)).1.length ∧ (SWM.childSO L bag (kidsSO Pa B R i (j + 1))).2.length ≤ (SWM.childSO L bag (kidsSO Pa B R i (SWM.kids Pa B.length i).length)).2.length) ∨ (SWM.kids Pa B.length i).length ≤ j := fun j => by
        by_cases z : (SWM.kids Pa B.length i).length ≤ j
        · exact .inr z
        · left
          have e : kidsSO Pa B R i (SWM.kids Pa B.length i).length = kidsSO Pa B R i (j + 1) ++ ((SWM.kids Pa B.length i).drop (j + 1)).map fun c => (SWM.bagAt B c, R c) := by
            unfold kidsSO
            rw [← List.map_append, List.take_append_drop, List.take_length]
          rw [e]
          refine childSO_mono L bag _ _ ?_
          have hl : (kidsSO Pa B R i (j + 1)).length = j + 1 := by
            unfold kidsSO
            rw [List.length_map, List.length_take]; omega
          intro z
          rw [z] at hl
          simp at hl
      have hR1 : (R i).1 = (SWM.childSO L bag (kidsSO Pa B R i (SWM.kids Pa B.length i).length)).1 ++ SWM.edgSteps (SWM.rowE L B es i) := by rw [hRi]; rfl
      have hR2 : (R i).2 = (SWM.childSO L bag (kidsSO Pa B R i (SWM.kids Pa B.length i).length)).2 := by rw [hRi]; rfl
      have hcl2 : (SWM.childSO L bag (kidsSO Pa B R i (SWM.kids Pa B.length i).length)).2.length ≤ 20000 := by rw [← hR2]; exact hz2
      have hcl : (SWM.childSO L bag (kidsSO Pa B R i (SWM.kids Pa B.length i).length)).1.length ≤ 20000 := by
        have := congrArg List.length hR1
        rw [List.length_append] at this
        omega
      have nl : ∀ b ∈ [A.dd], ∀ xs, H b ≠ some (.lst xs) := fun b hb xs z => by
        rw [List.mem_singleton.mp hb, hdd] at z
        cases z
      refine ⟨_, rfl, _, _, _, _, rfl, hp6', rf.kid, _, rfl, _, _, _, V.ref rk, rfl, rfl, .inl rw6.kid.at_, atI_nat (v := V.ref rk) (by rw [List.getElem?_map, hrk]; rfl), rk, _, rfl, SqL.of (f6.at_ _ _ (by simp) hkr NT.lst), for_it (walk_enum (xs := (SWM.kids Pa B.length i).map vN))
        (fun j σ H' => ∃ (sx oy : Addr) (o6 o7 o8 o9 : Option V) (kvs' : List (Key × V)), σ = [some (.ref A.p), some (vN i), some (.ref ba), some (.ref q1), some (.ref sx), some (.ref oy), o6, o7, o8, o9, none, none] ∧ Fr Pt [A.dd] H H' ∧ New H sx ∧ New H oy ∧ sx ≠ oy ∧
          LD H' sx ((SWM.childSO L bag (kidsSO Pa B R i j)).1.map dS) ∧ LD H' oy ((SWM.childSO L bag (kidsSO Pa B R i j)).2.map dN) ∧ H' A.dd = some (.dK kvs') ∧ kvs'.length ≤ kvs.length ∧ DnOk H kvs' (fun c => if c ∈ (SWM.kids Pa B.length i).take j then none else dn c))
        ⟨p5, p6, none, none, none, none, kvs, rfl, f6.sub (by simp), n5, n6, n56, l6, m6, f6.at_ _ _ (by simp) hdd NT.dK, Nat.le_refl _, hdn.congr fun j => by simp⟩ (fun j σ H' _ ⟨_, _, _, _, _, _, _, _, g, _⟩ => SqL.of (g.at_ _ _ nrk hkr NT.lst)) ?_ ?_⟩
      · rintro j x σ H7 H7' hj ⟨sx, oy, o6, o7, o8, o9, kvs', rfl, g7, nx, ny, nxy, lx, ly, d7, kl7, dn7⟩ ⟨T1, x1, x2, rfl, hT, rfl, e1, e2⟩
        obtain ⟨c, hc, rfl⟩ := map_at e2
        obtain rfl := (Option.some.inj e1).symm
        have s8 := same_new (o := .tup [.int (j : Nat), vN c]) hT
        refine ⟨_, _, rfl, SqT.of upd_same, rfl, _, _, rfl, _, _, rfl, rfl, ?_⟩
        have g8 := g7.same s8
        have d8 := s8 _ _ d7
        have lx8 := LD.same lx s8
        have ly8 := LD.same ly s8
        generalize upd H7 T1 (.tup [.int (j : Nat), vN c]) = H8 at g8 d8 lx8 ly8 ⊢
        have hcm := List.mem_of_getElem? hc
        obtain ⟨r1, r2, r3⟩ := hR c hcm
        have hjk : j < (SWM.kids Pa B.length i).length := (List.getElem?_eq_some_iff.mp hc).1
        have hcn : ¬ c ∈ (SWM.kids Pa B.length i).take j := fun z => by
          have e1 : (SWM.kids Pa B.length i).take (j + 1) = (SWM.kids Pa B.length i).take j ++ [c] := by rw [List.take_add_one, hc]; rfl
          have nd2 : ((SWM.kids Pa B.length i).take j ++ [c]).Nodup := by rw [← e1]; exact hknd.sublist (List.take_sublist _ _)
          exact (List.nodup_append.mp nd2).2.2 c z c (by simp) rfl
        have hp8 := g8.at_ _ _ ap.p hp NT.ins
        refine ⟨_, rfl, A.p, _, _, rfl, hp8, rf.no1 "_from_child" (by simp), _, rfl, _, rfl, A, n, es, B, Pa, kvs', (fun c' => if c' ∈ (SWM.kids Pa B.length i).take j then none else dn c'), i, c, R c, rfl, rw0.fr g8 ap, D0, hn, d8, dn7.fr g8 nl, by show (if _ then none else dn c) = _; rw [if_neg hcn]; exact r1, hi, hks c hcm, by omega, by omega, g8.tab, fun H9 t9 x9 y9 f9 ht9 lx9 ly9 nx9 ny9 nxy9 d9 => ?_⟩
        rw [hLe, hbe] at lx9 ly9
        refine ⟨_, _, rfl, SqT.of ht9, rfl, _, _, rfl, _, _, rfl, rfl, ?_⟩
        have nsd : sx ≠ A.dd := (nx.ne hdd NT.dK).symm
        have nod : oy ≠ A.dd := (ny.ne hdd NT.dK).symm
        have n9x := New.back g8 nx9 (by simpa using (nx9.ne d8 NT.dK).symm)
        have n9y := New.back g8 ny9 (by simpa using (ny9.ne d8 NT.dK).symm)
        have g9 := g8.trans f9
        have ek : kidsSO Pa B R i (j + 1) = kidsSO Pa B R i j ++ [(SWM.bagAt B c, R c)] := by
          unfold kidsSO
          rw [List.take_add_one, hc, List.map_append]; rfl
        have hz := hfull j
        rcases hz with hz | hz
        · refine ⟨fun σ H' => ∃ sx oy : Addr, σ = [some (.ref A.p), some (vN i), some (.ref ba), some (.ref q1), some (.ref sx), some (.ref oy), some (.int (j : Nat)), some (vN c), some (.ref x9), some (.ref y9), none, none] ∧ Fr Pt [A.dd] H H' ∧ New H sx ∧ New H oy ∧ sx ≠ oy ∧
            LD H' sx ((SWM.childSO L bag (kidsSO Pa B R i (j + 1))).1.map dS) ∧ LD H' oy ((SWM.childSO L bag (kidsSO Pa B R i (j + 1))).2.map dN) ∧ H' A.dd = some (.dK (dropK kvs' (kI c))), ?_, ?_⟩
          · refine ⟨_, rfl, rfl, _, rfl, ?_⟩
            by_cases e0 : j = 0
            · refine ifT (veq (by omega)) ?_
              have e3 : SWM.childSO L bag (kidsSO Pa B R i (j + 1)) = SWM.fromC L bag (SWM.bagAt B c) (R c) := by
                rw [ek, childSO_snoc, if_pos (by rw [e0]; simp [kidsSO])]
              rw [e3]
              exact ⟨_, rfl, _, rfl, _, _, rfl, x9, y9, rfl, g9, n9x, n9y, nxy9, lx9, ly9, d9⟩
            · refine ifF (vne (by omega)) ?_
              have e3 : SWM.childSO L bag (kidsSO Pa B R i (j + 1)) = SWM.addC bag (SWM.childSO L bag (kidsSO Pa B R i j)) (SWM.fromC L bag (SWM.bagAt B c) (R c)) := by
                rw [ek, childSO_snoc, if_neg (fun z => by
                  have := congrArg List.length z
                  unfold kidsSO at this
                  rw [List.length_map, List.length_take] at this
                  simp only [List.length_nil] at this
                  omega)]
              rw [e3] at hz ⊢
              obtain ⟨hz1', hz2'⟩ := hz
              rw [SWM.addC_len] at hz1'
              have hz3 : (SWM.childSO L bag (kidsSO Pa B R i j)).2.length + (((SWM.fromC L bag (SWM.bagAt B c) (R c)).2).filter fun v => decide (¬ v ∈ bag)).length ≤ 20000 := by
                have e4 : (SWM.addC bag (SWM.childSO L bag (kidsSO Pa B R i j)) (SWM.fromC L bag (SWM.bagAt B c) (R c))).2 = (SWM.childSO L bag (kidsSO Pa B R i j)).2 ++ ((SWM.fromC L bag (SWM.bagAt B c) (R c)).2).filter fun v => decide (¬ v ∈ bag) := rfl
                rw [e4, List.length_append] at hz2'
                omega
              have hz4 : (SWM.fromC L bag (SWM.bagAt B c) (R c)).2.length ≤ 21000 := by
                show ((R c).2 ++ _).length ≤ _
                rw [List.length_append, byL_len2]
                have := List.length_filter_le (fun v => decide (¬ v ∈ SWM.bagAt B c)) bag
                omega
              generalize hX : SWM.childSO L bag (kidsSO Pa B R i j) = X0 at hz1' hz3 lx8 ly8 ⊢
              generalize hY : SWM.fromC L bag (SWM.bagAt B c) (R c) = Y0 at hz1' hz3 hz4 lx9 ly9 ⊢
              obtain ⟨sv8, hs8, _⟩ := id lx8
              obtain ⟨ov8, ho8, _⟩ := id ly8
              have nsx : sx ≠ x9 := nx9.ne hs8 NT.lst
              have nsy : sx ≠ y9 := ny9.ne hs8 NT.lst
              have noy : oy ≠ y9 := ny9.ne ho8 NT.lst
              obtain ⟨sv, hs1, hs2⟩ := LD.fr lx8 f9 (by simpa using nsd)
              obtain ⟨ov, ho1, ho2⟩ := LD.fr ly8 f9 (by simpa using nod)
              obtain ⟨mv, hm1, hm2⟩ := lx9
              obtain ⟨yv, hy1, hy2⟩ := ly9
              have hsl : sv.length = X0.1.length := by rw [hs2.length]; simp
              have hol : ov.length = X0.2.length := by rw [ho2.length]; simp
              have hml : mv.length = Y0.1.length := by rw [hm2.length]; simp
              have hyl : yv.length = Y0.2.length := by rw [hy2.length]; simp
              refine ⟨_, rfl, .inl ⟨rfl, _, SqL.of hs1⟩, _, rfl, one_line, fun ta hta => ⟨one_line, fun pa hpa => ?_⟩⟩
              have sa := same_new (o := .tup [.str "join"]) hta
              have sb := same_new (o := .lst [.ref ta]) hpa
              refine ⟨x9, pa, _, _, rfl, rfl, sb _ _ (sa _ _ hm1), upd_same, le_line (by simp only [List.length_singleton]; omega), fun pb hpb => ?_⟩
              have sc := same_new (o := .lst (mv ++ [.ref ta])) hpb
              have sac := sa.trans (sb.trans sc)
              have td : TDs (upd (upd (upd H9 ta (.tup [.str "join"])) pa (.lst [.ref ta])) pb (.lst (mv ++ [.ref ta]))) (mv ++ [.ref ta]) ((Y0.1 ++ [SWM.Stp.join]).map dS) := by
                rw [List.map_append]
                exact (hm2.mono (Same.t sac)).append (.cons (TD.ofStep (s := .join) (sc _ _ (sb _ _ upd_same))) .nil)
              have hb10 : (upd (upd (upd H9 ta (.tup [.str "join"])) pa (.lst [.ref ta])) pb (.lst (mv ++ [.ref ta]))) pb = some (.lst (mv ++ [.ref ta])) := upd_same
              generalize upd (upd (upd H9 ta (.tup [.str "join"])) pa (.lst [.ref ta])) pb (.lst (mv ++ [.ref ta])) = H10 at sac td hb10 ⊢
              have hs10 := sac _ _ hs1
              refine ⟨sx, pb, _, _, rfl, rfl, hs10, hb10, le_line (by simp only [List.length_append, List.length_singleton]; omega), ?_⟩
              have g11 := (g9.same sac).putN (u := .lst (sv ++ (mv ++ [.ref ta]))) nx hs10 NT.lst (fun _ z => by cases z)
              have st11 : SameT H10 (upd H10 sx (.lst (sv ++ (mv ++ [.ref ta])))) := SameT.put hs10 (fun _ z => by cases z)
              have l11 : LD (upd H10 sx (.lst (sv ++ (mv ++ [.ref ta])))) sx ((SWM.addC bag X0 Y0).1.map dS) := ⟨_, upd_same, by
                show TDs _ _ ((X0.1 ++ (Y0.1 ++ [SWM.Stp.join])).map dS)
                rw [List.map_append]
                exact ((hs2.mono (Same.t sac)).append td).mono st11⟩
              have ho11 : (upd H10 sx (.lst (sv ++ (mv ++ [.ref ta])))) oy = some (.lst ov) := by rw [upd_ne nxy.symm]; exact sac _ _ ho1
              have hy11 : (upd H10 sx (.lst (sv ++ (mv ++ [.ref ta])))) y9 = some (.lst yv) := by rw [upd_ne nsy.symm]; exact sac _ _ hy1
              have d11 : (upd H10 sx (.lst (sv ++ (mv ++ [.ref ta])))) A.dd = some (.dK (dropK kvs' (kI c))) := by rw [upd_ne nsd.symm]; exact sac _ _ d9
              have ho11' := (ho2.mono (Same.t sac)).mono st11
              generalize upd H10 sx (.lst (sv ++ (mv ++ [.ref ta]))) = H11 at g11 l11 ho11 hy11 d11 ho11' ⊢
              have hba11 := g11.t _ _ hba
              have eyv : yv = Y0.2.map vN := hy2.nats
              refine ⟨_, rfl, .inl ⟨rfl, _, SqL.of ho11⟩, _, rfl, y9, rfl, ⟨_, SqL.of hy11⟩, fun D hD => lc_td (walk_list (xs := yv)) hD (outF Y0.2 (fun v => decide (¬ v ∈ bag)) dN) outF_0 (fun H h => SqL.of (h _ _ hy11)) ?_ ?_⟩
              · rintro j2 z H12 H12' hj2 pl ⟨rfl, hz⟩
                rw [eyv] at hz
                obtain ⟨v, hv, rfl⟩ := map_at hz
                refine ⟨rfl, _, rfl, _, rfl, dN v, bag.map dN, .int _, TD.ofNats (pl.1 _ _ hba11), Nice.of (ni_N _) (by decide), ⟨(niceAll_map ni_N _).lay, Nat.le_trans (niceAll_map ni_N _).dep (by decide)⟩, _, rfl, ?_⟩
                rw [any_map eqv_N]
                by_cases e : v ∈ bag
                · rw [decide_eq_true e]
                  refine iteF ?_
                  rw [outF_no hv (decide_eq_false (fun z => z e))]
                  exact pl
                · rw [decide_eq_false e]
                  refine iteT ⟨_, rfl, ?_⟩
                  rw [outF_yes hv (decide_eq_true e)]
                  exact pl.add hD (Same.refl _) (.int _) (lt_line (Nat.le_trans outF_len (by omega)))
              · intro H12 pl
                rw [hyl, outF_all] at pl
                have hD12 := pl.nats
                have ho12 := pl.1 _ _ ho11
                refine ⟨oy, D, _, _, rfl, rfl, ho12, hD12, le_line (by rw [List.length_map]; omega), ?_⟩
                have g13 := (g11.same pl.1).putN (u := .lst (ov ++ ((Y0.2).filter fun v => decide (¬ v ∈ bag)).map vN)) ny ho12 NT.lst (fun _ z => by cases z)
                have st13 : SameT H12 (upd H12 oy (.lst (ov ++ ((Y0.2).filter fun v => decide (¬ v ∈ bag)).map vN))) := SameT.put ho12 (fun _ z => by cases z)
                obtain ⟨lv, lv1, lv2⟩ := LD.same l11 pl.1
                refine ⟨sx, oy, rfl, g13, nx, ny, nxy, ⟨lv, by rw [upd_ne nxy]; exact lv1, lv2.mono st13⟩, ⟨_, upd_same, ?_⟩, by rw [upd_ne nod.symm]; exact pl.1 _ _ d11⟩
                show TDs _ _ ((X0.2 ++ (Y0.2).filter fun v => decide (¬ v ∈ bag)).map dN)
                rw [List.map_append]
                exact (((ho11'.mono (Same.t pl.1)).append (.ofNats _))).mono st13
          · rintro σ H10 ⟨sx', oy', rfl, g10, nx', ny', nxy', lx', ly', d10⟩
            obtain ⟨sv, hs1, hs2⟩ := id lx'
            have hsl : sv.length = (SWM.childSO L bag (kidsSO Pa B R i (j + 1))).1.length := by rw [hs2.length]; simp
            refine ⟨_, rfl, _, _, rfl, .inl hs1, _, _, rfl, rfl, _, rfl, ifF (decide_eq_false (by omega)) ?_⟩
            refine ⟨sx', oy', _, _, _, _, dropK kvs' (kI c), rfl, g10, nx', ny', nxy', lx', ly', d10, Nat.le_trans (dropK_le _ _) kl7, dn7.drop c fun c' => ?_⟩
            rw [List.take_add_one, hc]
            by_cases z : c' = c
            · simp [z]
            · simp [z]
        · omega
      · rintro σ H7 ⟨sx, oy, o6, o7, o8, o9, kvs', rfl, g7, nx, ny, nxy, lx, ly, d7, kl7, dn7⟩
        rw [show ((SWM.kids Pa B.length i).map vN).length = (SWM.kids Pa B.length i).length by simp] at lx ly dn7
        obtain ⟨sv, hs1, hs2⟩ := lx
        obtain ⟨ov, ho1, ho2⟩ := ly
        have hsl : sv.length = (SWM.childSO L bag (kidsSO Pa B R i (SWM.kids Pa B.length i).length)).1.length := by rw [hs2.length]; simp
        have rw7 := rw0.fr g7 ap
        have hp7 := g7.at_ _ _ ap.p hp NT.ins
        obtain ⟨re, hre⟩ : ∃ r, A.re[i]? = some r := ⟨_, List.getElem?_eq_getElem (by rw [rw0.eds.len]; exact hi)⟩
        obtain ⟨ev, he1, he2⟩ := rw7.eds.row i re hre
        rw [hLe] at he2
        have hel : ev.length = (SWM.rowE L B es i).length := by rw [he2.length]; simp
        have hrl : (SWM.rowE L B es i).length ≤ 20000 := by
          have := congrArg List.length hR1
          rw [List.length_append] at this
          unfold SWM.edgSteps at this
          rw [List.length_map] at this
          omega
        have nsd : A.dd ≠ sx := nx.ne hdd NT.dK
        have nod : A.dd ≠ oy := ny.ne hdd NT.dK
        refine ⟨_, rfl, .inl ⟨rfl, _, SqL.of hs1⟩, _, rfl, _, _, _, _, rfl, hp7, rf.eds, _, rfl, _, _, _, V.ref re, rfl, rfl, .inl rw7.eds.at_, atI_nat (v := V.ref re) (by rw [List.getElem?_map, hre]; rfl), re, rfl, ⟨_, SqL.of he1⟩, fun D hD => lc_td (walk_list (xs := ev)) hD (outM (SWM.rowE L B es i) (fun p => dS (.edge p.1 p.2))) outM_0 (fun H h => SqL.of (h _ _ he1)) ?_ ?_⟩
        · rintro j z H8 H8' hj pl ⟨rfl, hz⟩
          obtain ⟨dd, hn, hxd⟩ := he2.getV hz
          obtain ⟨pr, hpr, rfl⟩ := map_at hn
          obtain ⟨pb, rfl, hpb⟩ := (hxd.mono (Same.t pl.1)).pairI
          refine ⟨rfl, one_line, fun ta hta => ⟨_, rfl, ta, pb, _, _, rfl, rfl, upd_same, same_new hta _ _ hpb, three_line, fun p H9 s9 hp9 => ?_⟩⟩
          rw [outM_yes hpr]
          exact pl.add hD ((same_new hta).trans s9) (TD.ofStep (s := .edge pr.1 pr.2) hp9) (lt_line (Nat.le_trans outM_len (by omega)))
        · intro H8 pl
          rw [hel, outM_all] at pl
          obtain ⟨ws, hw1, hw2⟩ := pl.2
          have hwl : ws.length = (SWM.rowE L B es i).length := by rw [hw2.length]; simp
          have hs8 := pl.1 _ _ hs1
          refine ⟨sx, D, _, _, rfl, rfl, hs8, hw1, le_line (by omega), ?_⟩
          have g9 := (g7.same pl.1).putN (u := .lst (sv ++ ws)) nx hs8 NT.lst (fun _ z => by cases z)
          have st9 : SameT H8 (upd H8 sx (.lst (sv ++ ws))) := SameT.put hs8 (fun _ z => by cases z)
          have l9 : LD (upd H8 sx (.lst (sv ++ ws))) sx ((R i).1.map dS) := ⟨_, upd_same, by
            have e : (SWM.edgSteps (SWM.rowE L B es i)).map dS = (SWM.rowE L B es i).map (fun p => dS (.edge p.1 p.2)) := by simp [SWM.edgSteps]
            rw [hR1, List.map_append, e]
            exact ((hs2.mono (Same.t pl.1)).append hw2).mono st9⟩
          have ly9 : LD (upd H8 sx (.lst (sv ++ ws))) oy ((R i).2.map dN) := ⟨ov, by rw [upd_ne nxy.symm]; exact pl.1 _ _ ho1, by
            rw [hR2]
            exact (ho2.mono (Same.t pl.1)).mono st9⟩
          have d9 : (upd H8 sx (.lst (sv ++ ws))) A.dd = some (.dK kvs') := by rw [upd_ne nsd]; exact pl.1 _ _ d7
          generalize upd H8 sx (.lst (sv ++ ws)) = H9 at g9 l9 ly9 d9 ⊢
          -- self._done[at] = (steps, order)
          refine ⟨_, rfl, _, rfl, two_line, fun t ht => ?_⟩
          have s10 := same_new (o := .tup [.ref sx, .ref oy]) ht
          have g10 := g9.same s10
          have d10 := s10 _ _ d9
          have l10 := LD.same l9 s10
          have ly10 := LD.same ly9 s10
          have ht10 : (upd H9 t (.tup [.ref sx, .ref oy])) t = some (.tup [.ref sx, .ref oy]) := upd_same
          generalize upd H9 t (.tup [.ref sx, .ref oy]) = H10 at g10 d10 l10 ly10 ht10 ⊢
          refine ⟨_, rfl, _, _, _, _, rfl, g10.at_ _ _ ap.p hp NT.ins, rf.don, _, rfl, A.dd, _, rfl, DPut.k (k := kI i) d10 (lt_line (by omega)), ?_⟩
          have g11 := g10.put (u := .dK (putK kvs' (kI i) (.ref t))) (by simp) d10 (fun _ z => by cases z) NT.dK (fun _ z => by cases z)
          have st11 : SameT H10 (upd H10 A.dd (.dK (putK kvs' (kI i) (.ref t)))) := SameT.put d10 (fun _ z => by cases z)
          refine q _ _ g11 upd_same (Nat.le_trans (length_putK _ _ _) (by omega)) ?_
          obtain ⟨lv, lv1, lv2⟩ := l10
          obtain ⟨mv, mv1, mv2⟩ := ly10
          refine DnOk.put (so := R i) (t := t) (x := sx) (y := oy) (dn7.fr g11 nl) (st11 _ _ ht10) ⟨lv, by rw [upd_ne nsd.symm]; exact lv1, lv2.mono st11⟩ ⟨mv, by rw [upd_ne nod.symm]; exact mv1, mv2.mono st11⟩ fun c => ?_
          show _ = if c = i then some (R i) else if c ∈ (SWM.kids Pa B.length i).take (SWM.kids Pa B.length i).length then none else dn c
          rw [List.take_length]
end
end SW


set_option maxRecDepth 100000
set_option maxHeartbeats 2000000
/-! Rows.whole. -/
namespace SW
open PySem PySem.Spec PyProof.Rows L2
section
variable {P : Program} {w : World} {K : PySem.W.Frag} {mg : Str → Option Value} {base : Heap}
def sp_Rows_whole (C Pt : Addr) : Sp := fun vs H Q _ => ∃ (A : RA) (n : Nat) (es : List (Nat × Nat)) (B : List (List Nat)) (Pa : List Int) (kvs : List (Key × V)) (dn : Nat → Option SWM.SO) (so : SWM.SO), vs = [.ref A.p] ∧ RwAt C H A es B Pa ∧ SWM.Dec n es B Pa ∧ n ≤ 1000 ∧
  H A.dd = some (.dK kvs) ∧ DnOk H kvs dn ∧ dn 0 = some so ∧ so.1.length ≤ 100000 ∧ so.2.length ≤ 100000 ∧ LamX.Tabs (TL Pt) H ∧
  ∀ H' t x y, Fr Pt [] H H' → H' t = some (.tup [.ref x, .ref y]) → LD H' x ((SWM.wholeSO (SWM.lkD (SWM.labs B Pa)) (SWM.bagAt B 0) so).1.map dS) → LD H' y ((SWM.wholeSO (SWM.lkD (SWM.labs B Pa)) (SWM.bagAt B 0) so).2.map dN) → Q (.ref t) H'
theorem ok_Rows_whole (T : Txt K mg w) {cL Pt : Addr} (LBh : LB T base cL Pt) : FnOk P w K mg base CX0 3 T.f_Rows_whole T.fd_Rows_whole ["self"] (sp_Rows_whole T.C_Rows Pt) := by
  refine T.F_Rows_whole.ok sc_Rows_whole (fun vs H Q E h => ?_) (fun cdv A0 outer s H vs Q E hr h => ?_)
  · obtain ⟨A, n, es, B, Pa, kvs, dn, so, rfl, _⟩ := h
    rfl
  · obtain ⟨A, n, es, B, Pa, kvs, dn, so, rfl, rw0, D0, hn, hdd, hdn, hso, hz1, hz2, htab, q⟩ := h
    have hu := hu65 hr
    have hu1 := hu_of hr
    refine ⟨_, PSs.nox (pss_cons (ps_asg (pe_dget hu1 (pe_f (C := T.C_Rows) (pv 0) T.cl_Rows T.n_Rows__done) pe_int (fun _ _ => rfl)) (pg_tup (by rfl) (pgs_cons (pg_name (i := 1) sc_Rows_whole.nd rfl (Or.inl rfl)) (pgs_cons (pg_name (i := 2) sc_Rows_whole.nd rfl (Or.inl rfl)) pgs_nil))))
    (pss_one (ps_ret (pe_tup (pa_cons (pe_op op_cat (pv 1) (pe_lc (own := [("v", 3)]) (g := gName 3) rfl sc_Rows_whole.nd (pi_list (pe_meth (pv 0) T.cl_Rows T.m_Rows__by_labels (ok_Rows__by_labels T LBh) (hr.mono (by decide)) (b_Rows__by_labels T) .nil pass0 (pa_cons (pe_ix op_ix (pe_f (C := T.C_Rows) (pv 0) T.cl_Rows T.n_Rows__bags) pe_int (fun _ _ => rfl)) pa_nil))) (blkOk_by (N := ["self", "steps", "order", "v"]) (sc := defScope s_Rows_whole) (by decide +kernel)) (fun _ _ _ _ _ => pg_name (i := 3) sc_Rows_whole.nd rfl (Or.inl rfl)) (fun _ _ _ _ _ => pts_nil) (fun _ _ _ _ _ => (pe_tup (pa_cons pe_str (pa_cons (pe_dget hu1 (pe_f (C := T.C_Rows) (pv 0) T.cl_Rows T.n_Rows__labels) (pv 3) (fun _ _ => rfl)) pa_nil)))))) (pa_cons (pv 2) pa_nil))))))
    , ?_⟩
    obtain ⟨fs, hp, rf⟩ := id rw0.ins
    obtain ⟨t, x, y, hv, ht, hx, hy⟩ := (hdn 0).2 so hso
    have hi : 0 < B.length := List.length_pos_iff.mpr D0.ne
    have hg : DGet H A.dd (vN 0) (some (.ref t)) := by
      have := DGet.k (k := kI 0) hdd
      rw [hv] at this
      exact this
    refine ⟨_, rfl, _, _, _, _, rfl, hp, rf.don, A.dd, _, rfl, hg, ?_⟩
    refine ⟨_, _, rfl, SqT.of ht, rfl, _, _, rfl, _, _, rfl, rfl, ?_⟩
    obtain ⟨bs, bv, hb, hbl, hbv, hbt⟩ := bag_get rw0.bags hi
    obtain ⟨ba, rfl, hba⟩ := hbt.natsI
    have hmb : ∀ v ∈ SWM.bagAt B 0, v ∈ (SWM.labs B Pa).map (·.1) := fun v hv => lab_mem D0 hi hv
    have hlb : (SWM.bagAt B 0).length ≤ n := dec_len (D0.mem _ (bagAt_mem hi)) (D0.asc _ (bagAt_mem hi))
    generalize hbe : SWM.bagAt B 0 = bag at hba hmb hlb q
    refine ⟨_, rfl, _, rfl, A.p, _, _, rfl, hp, rf.no1 "_by_labels" (by simp), _, rfl, _, _, _, _, rfl, hp, rf.bags, _, _, _, _, rfl, rfl, .inr hb, atI_nat (j := 0) hbv, A.p, ba, A.dx, A.dl, fs, bag, SWM.labs B Pa, rfl, .inr hba, htab, hp, rf.labs, rw0.lab, hmb, fun H1 q1 f1 n1 hq1 => ?_⟩
    have rw1 := rw0.fr f1 (apart_nil A)
    have hp1 := f1.at_ _ _ (by simp) hp NT.ins
    generalize hLe : SWM.lkD (SWM.labs B Pa) = L at hq1 q
    have hbl2 : (SWM.byL L bag).length = bag.length := byL_len2 _ _
    refine ⟨q1, rfl, ⟨_, SqL.of hq1⟩, fun D4 hD4 => lc_td (walk_list (xs := (SWM.byL L bag).map vN)) hD4 (outM (SWM.byL L bag) (fun v => dS (.forget (L v)))) outM_0 (fun H h => SqL.of (h _ _ hq1)) ?_ ?_⟩
    · rintro j z H4 H4' hj pl ⟨rfl, hz⟩
      obtain ⟨v, hv, rfl⟩ := map_at hz
      have hvm := hmb v (SWM.mem_byL.mp (List.mem_of_getElem? hv))
      refine ⟨rfl, _, rfl, _, _, _, _, rfl, pl.1 _ _ hp1, rf.labs, _, rfl, A.dl, _, rfl, dget (.inl (pl.1 _ _ rw1.lab)) hvm, two_line, fun t4 ht4 => ?_⟩
      rw [hLe, outM_yes hv]
      exact pl.add hD4 (same_new ht4) (TD.ofStep (s := .forget (L v)) upd_same) (lt_line (Nat.le_trans outM_len (by omega)))
    · intro H4 pl
      rw [show ((SWM.byL L bag).map vN).length = (SWM.byL L bag).length by simp, outM_all] at pl
      obtain ⟨ws, hw0, hwd⟩ := pl.2
      have f4 := f1.same pl.1
      obtain ⟨xs, hx4, hxd⟩ := LD.fr hx f4 (by simp)
      have hxl : xs.length = so.1.length := by rw [hxd.length]; simp
      have hwl : ws.length ≤ 1000 := by rw [hwd.length, List.length_map, hbl2]; omega
      refine ⟨x, D4, _, _, rfl, rfl, hx4, hw0, le_line (by omega), fun p5 hp5 => ?_⟩
      have s5 := same_new (o := .lst (xs ++ ws)) hp5
      have f5 := f4.same s5
      have l5 : LD (upd H4 p5 (.lst (xs ++ ws))) p5 ((SWM.wholeSO L bag so).1.map dS) := ⟨_, upd_same, by
        have e : (SWM.wholeSO L bag so).1.map dS = so.1.map dS ++ (SWM.byL L bag).map (fun v => dS (.forget (L v))) := by simp [SWM.wholeSO]
        rw [e]
        exact (hxd.append hwd).mono (Same.t s5)⟩
      have ly5 := LD.fr hy f5 (by simp)
      refine ⟨_, rfl, two_line, fun t6 ht6 => ?_⟩
      have s6 := same_new (o := .tup [.ref p5, .ref y]) ht6
      exact q _ t6 p5 y (f5.same s6) upd_same (LD.same l5 s6) (LD.same ly5 s6)
end
end SW


set_option maxRecDepth 100000
set_option maxHeartbeats 2000000
/-! term_of. -/
namespace SW
open PySem PySem.Spec PyProof.Rows L2
theorem tabs_same {T : List (Addr × Str)} {H H' : Hp} (t : LamX.Tabs T H) (s : Same H H') : LamX.Tabs T H' := t.ext s
/-- what is worked out when the bags from i on are done -/
def dnT (Pa : List Int) (N : Nat) (R : Nat → SWM.SO) (i c : Nat) : Option SWM.SO := if i ≤ c ∧ c < N ∧ (c = 0 ∨ SWM.parOf Pa c < i) then some (R c) else none
theorem dnT_step {Pa : List Int} {N : Nat} {R : Nat → SWM.SO} {i : Nat} (hi : i < N) (hp : 0 < i → SWM.parOf Pa i < i) (c : Nat) : dnT Pa N R i c = if c = i then some (R i) else if c ∈ SWM.kids Pa N i then none else dnT Pa N R (i + 1) c := by
  unfold dnT
  by_cases e : c = i
  · subst e
    rw [if_pos rfl, if_pos ⟨Nat.le_refl _, hi, by
      by_cases z : c = 0
      · exact .inl z
      · exact .inr (hp (by omega))⟩]
  · rw [if_neg e]
    by_cases h : c ∈ SWM.kids Pa N i
    · rw [if_pos h]
      obtain ⟨h1, h2, h3⟩ := SWM.mem_kids.mp h
      rw [if_neg (by rintro ⟨_, _, z | z⟩ <;> omega)]
    · rw [if_neg h]
      have h' : ¬ (c < N ∧ 0 < c ∧ SWM.parOf Pa c = i) := fun z => h (SWM.mem_kids.mpr z)
      by_cases z : i + 1 ≤ c ∧ c < N ∧ (c = 0 ∨ SWM.parOf Pa c < i + 1)
      · rw [if_pos z, if_pos (by
          obtain ⟨a, b, d⟩ := z
          refine ⟨by omega, b, ?_⟩
          rcases d with d | d
          · exact .inl d
          · right
            have : SWM.parOf Pa c ≠ i := fun q => h' ⟨b, by omega, q⟩
            omega)]
      · rw [if_neg z, if_neg (by
          rintro ⟨a, b, d⟩
          refine z ⟨by omega, b, ?_⟩
          rcases d with d | d
          · exact .inl d
          · exact .inr (by omega))]
section
variable {P : Program} {w : World} {K : PySem.W.Frag} {mg : Str → Option Value} {base : Heap}
def sp_term_of (CG Pt : Addr) : Sp := fun vs H Q _ => ∃ (g : Addr) (vb vp : V) (n : Nat) (es : List (Nat × Nat)) (B : List (List Nat)) (Pa : List Int) (k : Nat) (R : Nat → SWM.SO), vs = [.ref g, vb, vp, vN k] ∧ GrAt CG H g n es ∧ TD H vb (dB B) ∧ TD H vp (dI Pa) ∧ SWM.Dec n es B Pa ∧ B.length ≤ 100000 ∧ n ≤ 1000 ∧ es.length ≤ 100000 ∧
  (∀ b ∈ B, b.length ≤ k + 1) ∧ (∀ i, i < B.length → R i = SWM.doSO (SWM.lkD (SWM.labs B Pa)) (SWM.bagAt B i) (SWM.rowE (SWM.lkD (SWM.labs B Pa)) B es i) ((SWM.kids Pa B.length i).map fun c => (SWM.bagAt B c, R c))) ∧ (R 0).1.length ≤ 20000 ∧
  (SWM.wholeSO (SWM.lkD (SWM.labs B Pa)) (SWM.bagAt B 0) (R 0)).1.length ≤ 20000 ∧ LamX.Tabs (TL Pt) H ∧
  ∀ H' t u v, Fr Pt [] H H' → H' t = some (.tup [u, v]) → TD H' u (dT (SWM.wholeSO (SWM.lkD (SWM.labs B Pa)) (SWM.bagAt B 0) (R 0)).1) → TD H' v (dNs (SWM.wholeSO (SWM.lkD (SWM.labs B Pa)) (SWM.bagAt B 0) (R 0)).2) → Q (.ref t) H'
theorem ok_term_of (T : Txt K mg w) {cL Pt : Addr} (LBh : LB T base cL Pt) : FnOk P w K mg base CX0 5 T.f_term_of T.fd_term_of ["graph", "bags", "parents", "k"] (sp_term_of T.C_Graph Pt) := by
  refine T.F_term_of.ok sc_term_of (fun vs H Q E h => ?_) (fun cdv A0 outer s H vs Q E hr h => ?_)
  · obtain ⟨g, vb, vp, n, es, B, Pa, k, R, rfl, _⟩ := h
    rfl
  · obtain ⟨g, vb, vp, n, es, B, Pa, k, R, rfl, hg, hb, hp, D0, hB, hn, hel, hw, hR, hz1, hz2, htab, q⟩ := h
    have hu := hu65 hr
    have hu1 := hu_of hr
    obtain ⟨t1, h_MOST_STEPS⟩ := T.i_MOST_STEPS
    refine ⟨_, PSs.nox (pss_cons (ps_if (PW.pt (pw_or (pt_cmpR op_notN (pe_call (ok_fault T) (hr.mono (by decide)) rfl T.g_fault T.F_fault.kp (b_fault T) .nil pass0 (pa_cons (pv 0) (pa_cons (pv 1) (pa_cons (pv 2) pa_nil)))) pe_non (by first | exact nomark _ | with_unfolding_all rfl)) (pw_or1 (pt_cmpR op_gt (pe_call (ok_width_of T) (hr.mono (by decide)) rfl T.g_width_of T.F_width_of.kp (b_width_of T) .nil pass0 (pa_cons (pv 1) pa_nil)) (pv 3) (by first | exact nomark _ | with_unfolding_all rfl)))))
    (pss_one ps_never)
    pss_nil)
    (pss_cons (ps_set (i := 4) sc_term_of.nd rfl (Or.inl rfl) (pe_make T.mk_Rows (ok_Rows___init__ T) (hr.mono (by decide)) rfl T.gC_Rows (b_Rows___init__ T) .nil pass0 (pa_cons (pv 0) (pa_cons (pv 1) (pa_cons (pv 2) pa_nil)))))
    (pss_cons (ps_for PassesOwn.never rfl (pi_range3 rfl T.z_range (pa_cons (pe_op op_sub (pe_callB cr_len rfl T.z_len boot_len (pa_cons (pv 1) pa_nil)) pe_int) (pa_cons (pe_un un_neg pe_int) (pa_cons (pe_un un_neg pe_int) pa_nil)))) (pg_name (i := 5) sc_term_of.nd rfl (Or.inl rfl))
    (pss_one (ps_expr (pe_meth (pv 4) T.cl_Rows T.m_Rows_do (ok_Rows_do T LBh) (hr.mono (by decide)) (b_Rows_do T) .nil pass0 (pa_cons (pv 5) pa_nil)))))
    (pss_cons (ps_asg (pe_meth0 (pv 4) T.cl_Rows T.m_Rows_whole (ok_Rows_whole T LBh) (hr.mono (by decide)) (b_Rows_whole T) .nil pass0) (pg_tup (by rfl) (pgs_cons (pg_name (i := 6) sc_term_of.nd rfl (Or.inl rfl)) (pgs_cons (pg_name (i := 7) sc_term_of.nd rfl (Or.inl rfl)) pgs_nil))))
    (pss_cons (ps_if (pt_cmpR op_gt (pe_callB cr_len rfl T.z_len boot_len (pa_cons (pv 6) pa_nil)) (pe_glob (v := .int 20000) rfl h_MOST_STEPS ⟨_, rfl⟩) (by first | exact nomark _ | with_unfolding_all rfl))
    (pss_one ps_never)
    pss_nil)
    (pss_one (ps_ret (pe_tup (pa_cons (pe_callTy cr_tup rfl T.z_tuple boot_tuple (pa_cons (pv 6) pa_nil)) (pa_cons (pe_callTy cr_tup rfl T.z_tuple boot_tuple (pa_cons (pv 7) pa_nil)) pa_nil))))))))))
    , ?_⟩
    have hBne : 0 < B.length := List.length_pos_iff.mpr D0.ne
    have hRl := SWM.R_all (SWM.dec_par D0) hR
    refine ⟨_, rfl, _, rfl, _, rfl, g, vb, vp, n, es, B, Pa, rfl, hg, hb, hp, D0, hB, by omega, fun H1 s1 => ⟨rfl, _, rfl, ifF rfl ?_⟩⟩
    refine ⟨_, rfl, vb, B, k, rfl, hb.mono (Same.t s1), D0.ne, hw, hB, fun H2 m s2 hm => ⟨_, rfl, _, _, rfl, rfl, _, rfl, ifF (decide_eq_false (by omega)) ?_⟩⟩
    have s12 := s1.trans s2
    refine ⟨_, rfl, _, rfl, _, rfl, ?_⟩
    intro x dx hx hdx nxd
    have s3 : Same H2 (upd (upd H2 dx (.own x)) x (.ins T.C_Rows dx [])) := Same.put (same_new hdx) hx
    have s13 := s12.trans s3
    refine ⟨x, dx, g, vb, vp, n, es, B, Pa, rfl, upd_same, hg.same s13, hb.mono (Same.t s13), hp.mono (Same.t s13), D0, hB, hn, hel, fun H4 A m4 hAp rw4 hdd0 hdd4 => ⟨rfl, ?_⟩⟩
    have hddH : H A.dd = none := s13.free hdd0
    have s4 : Same H H4 := m4.same s13 fun b hb => by
      rw [List.mem_singleton.mp hb]
      exact s12.free hx
    subst hAp
    have ht4 := tabs_same htab s4
    obtain ⟨fs, hp4, rf⟩ := id rw4.ins
    have ap := rw4.apart hdd4
    have nl : ∀ b ∈ [A.dd], ∀ xs, H4 b ≠ some (.lst xs) := fun b hb xs z => by
      rw [List.mem_singleton.mp hb, hdd4] at z
      cases z
    obtain ⟨b, bs, rfl, hb1, hb2⟩ := hb.tupI
    have hbl : bs.length = B.length := by rw [hb2.length]; simp
    -- for at in range(len(bags) - 1, -1, -1)
    refine ⟨_, rfl, _, _, rfl, .inr (s4 _ _ hb1), _, _, rfl, rfl, _, rfl, _, rfl, _, _, _, _, rfl, RgC.neg (by omega) (by omega) (by decide) (by decide), for_it walk_rangeC (fun t σ H' => ∃ (o5 : Option V) (kvs : List (Key × V)), σ = [some (.ref g), some (.ref b), some vp, some (vN k), some (.ref A.p), o5, none, none] ∧ Fr Pt [A.dd] H4 H' ∧
        H' A.dd = some (.dK kvs) ∧ kvs.length ≤ t ∧ DnOk H' kvs (dnT Pa B.length R (B.length - t)))
      ⟨none, [], rfl, Fr.refl ht4, hdd4, Nat.le_refl _, fun c => ?_⟩ (fun i σ H' _ _ => True.intro) ?_ ?_⟩
    · refine ⟨fun _ => rfl, fun so e => ?_⟩
      unfold dnT at e
      rw [if_neg (by omega)] at e
      cases e
    · rintro t y σ H5 H5' ht ⟨o5, kvs, rfl, g5, d5, kl5, dn5⟩ ⟨rfl, rfl⟩
      have ht' : t < B.length := by omega
      obtain ⟨i, hi⟩ : ∃ i, i = B.length - (t + 1) := ⟨_, rfl⟩
      have hiB : i < B.length := by omega
      have ei : B.length - t = i + 1 := by omega
      rw [ei] at dn5
      have eat : V.int ((bs.length : Int) - 1 + (t : Nat) * (-1)) = vN i := by unfold vN; congr 1; omega
      refine ⟨_, rfl, A.p, _, _, rfl, g5.at_ _ _ ap.p hp4 NT.ins, rf.no1 "do" (by simp), _, rfl, A, n, es, B, Pa, kvs, _, i, R, ?_, rw4.fr g5 ap, D0, hn, d5, by omega, dn5, fun c hc => ?_, hiB, hB, ?_, by have := (hRl i hiB).1; omega, by have := (hRl i hiB).2; omega, g5.tab, fun H6 kvs6 g6 d6 kl6 dn6 => ?_⟩
      · show [V.ref A.p, V.int ((bs.length : Int) - 1 + (t : Nat) * (-1))] = _
        rw [eat]
      · obtain ⟨h1, h2, h3⟩ := SWM.mem_kids.mp hc
        have h4 := SWM.dec_par D0 c h2 h1
        have h5 := hRl c h1
        refine ⟨?_, by omega, by omega⟩
        unfold dnT
        rw [if_pos ⟨by omega, h1, .inr (by omega)⟩]
      · rw [hR i hiB]
        unfold kidsSO
        rw [List.take_length]
      · rw [← hi]
        exact ⟨_, kvs6, rfl, g5.trans g6, d6, by omega, dn6.congr fun c => dnT_step hiB (fun z => SWM.dec_par D0 i z hiB) c⟩
    · rintro σ H5 ⟨o5, kvs, rfl, g5, d5, kl5, dn5⟩
      have e0 : B.length - ((bs.length : Int) - 1 - -1).toNat = 0 := by omega
      rw [e0] at dn5
      have hso : dnT Pa B.length R 0 0 = some (R 0) := by
        unfold dnT
        rw [if_pos ⟨Nat.le_refl _, hBne, .inl rfl⟩]
      have h00 := hRl 0 hBne
      refine ⟨_, rfl, A.p, _, _, rfl, g5.at_ _ _ ap.p hp4 NT.ins, rf.no1 "whole" (by simp), A, n, es, B, Pa, kvs, _, R 0, rfl, rw4.fr g5 ap, D0, hn, d5, dn5, hso, by omega, by omega, g5.tab, fun H6 t6 x6 y6 f6 ht6 lx ly => ?_⟩
      refine ⟨_, _, rfl, SqT.of ht6, rfl, _, _, rfl, _, _, rfl, rfl, ?_⟩
      obtain ⟨xv, hx1, hx2⟩ := lx
      obtain ⟨yv, hy1, hy2⟩ := ly
      have hxl : xv.length = (SWM.wholeSO (SWM.lkD (SWM.labs B Pa)) (SWM.bagAt B 0) (R 0)).1.length := by rw [hx2.length]; simp
      refine ⟨_, rfl, _, _, rfl, .inl hx1, _, _, rfl, rfl, _, rfl, ifF (decide_eq_false (by omega)) ?_⟩
      refine ⟨_, rfl, _, _, rfl, hx1, fun p1 hp1 => ?_⟩
      have s7 := same_new (o := .tup xv) hp1
      refine ⟨_, rfl, _, _, rfl, s7 _ _ hy1, fun p2 hp2 => ?_⟩
      have s8 := same_new (o := .tup yv) hp2
      refine ⟨two_line, fun p3 hp3 => ?_⟩
      have s9 := same_new (o := .tup [.ref p1, .ref p2]) hp3
      have g9 : Fr Pt [A.dd] H4 _ := (g5.trans (f6.sub (by simp))).same (s7.trans (s8.trans s9))
      have s79 := s7.trans (s8.trans s9)
      refine q _ p3 _ _ ⟨fun c o _ e nt => g9.at_ c o (by
        intro z
        rw [List.mem_singleton.mp z, hddH] at e
        cases e) (s4 _ _ e) nt, (Same.t s4).trans g9.t, g9.tab⟩ upd_same (.tup (s9 _ _ (s8 _ _ upd_same)) (hx2.mono (Same.t s79))) (.tup (s9 _ _ upd_same) (hy2.mono (Same.t s79)))
end
end SW


set_option maxRecDepth 100000
set_option maxHeartbeats 2000000
/-! The law. -/
namespace SW
open PySem PySem.Spec PyProof.Rows L2
theorem SqL.fr {K : PySem.W.Frag} {Pt a : Addr} {H H' : Hp} {xs : List V} (h : SqL K H a xs) (f : Fr Pt [] H H') : SqL K H' a xs := by
  rcases h with (h | ⟨o, h⟩) | h
  · exact .inl (.inl (f.at_ _ _ (by simp) h NT.lst))
  · exact .inl (.inr ⟨o, f.at_ _ _ (by simp) h (fun _ z => by cases z)⟩)
  · exact .inr h
theorem rgV_nat (n : Nat) : rgV 0 (n : Int) = (List.range n).map vN := by
  unfold rgV
  have e : ((n : Int) - 0).toNat = n := by omega
  rw [e]
  refine List.map_congr_left fun i _ => ?_
  unfold vN
  rw [Int.zero_add]
theorem eqv_L (l m : List Nat) : PyData.eqv (.list (l.map dN)) (.list (m.map dN)) = decide (l = m) := eqvAll_map eqv_N l m
theorem graph_len {T : List SWM.Stp} {k : Nat} {f : SWM.Frm} (h : SWM.IsTerm T k f) : ∀ e ∈ SWM.graphT T, e.1 < SWM.sizeT T ∧ e.2 < SWM.sizeT T := fun e he => by
  have := (SWM.graph_ok h).lt e (SWM.mem_srtP.mp he)
  omega
/-- how long a term may be, by the turn -/
def bnd (t : Nat) : Nat := if t = 0 then 1200 else if t = 1 then 4833 else 20000
section
variable {P : Program} {w : World} {K : PySem.W.Frag} {mg : Str → Option Value} {base : Heap}
def sp_law (K : PySem.W.Frag) (Pt : Addr) : Sp := fun vs H Q _ => ∃ (a : Addr) (ns : List Int), vs = [.ref a] ∧ SqL K H a (ns.map V.int) ∧ LamX.Tabs (TL Pt) H ∧ ∀ H', Q (.bl true) H'
theorem ok_law (T : Txt K mg w) {cL Pt : Addr} (LBh : LB T base cL Pt) : FnOk P w K mg base CX0 8 T.f_law T.fd_law ["_law_script"] (sp_law K Pt) := by
  refine T.F_law.ok sc_law (fun vs H Q E h => ?_) (fun cdv A0 outer s H vs Q E hr h => ?_)
  · obtain ⟨a, ns, rfl, _⟩ := h
    rfl
  · obtain ⟨a, ns, rfl, hS, htab, q⟩ := h
    have hu := hu65 hr
    have hu1 := hu_of hr
    have hu64 := Nat.lt_of_succ_lt (Nat.lt_of_succ_lt hu)
    refine ⟨_, PSs.nox (pss_cut (ps_set (i := 1) sc_law.nd rfl (Or.inl rfl) (pe_op op_modN (pe_callTy call_int1 rfl T.z_int boot_int (pa_cons (pe_call (ok__law_cell T) (hr.mono (by decide)) rfl T.g__law_cell T.F__law_cell.kp (b__law_cell T) .nil pass0 (pa_cons (pv 0) (pa_cons pe_int pa_nil))) pa_nil)) pe_int))
    (pss_cons (ps_set (i := 2) sc_law.nd rfl (Or.inl rfl) (pe_call (ok__law_term T) (hr.mono (by decide)) rfl T.g__law_term T.F__law_term.kp (b__law_term T) .nil pass0 (pa_cons (pe_call (ok__law_cell T) (hr.mono (by decide)) rfl T.g__law_cell T.F__law_cell.kp (b__law_cell T) .nil pass0 (pa_cons (pv 0) (pa_cons pe_int pa_nil))) (pa_cons (pv 1) (pa_cons pe_int pa_nil)))))
    (pss_cons (ps_set (i := 3) sc_law.nd rfl (Or.inl rfl) (pe_ix op_ix (pe_call (ok_made T) (hr.mono (by decide)) rfl T.g_made T.F_made.kp (b_made T) .nil pass0 (pa_cons (pv 2) (pa_cons (pv 1) pa_nil))) pe_int (fun _ _ => rfl)))
    (pss_cons (ps_for PassesOwn.never rfl (pi_range1 rfl T.z_range (pa_cons pe_int pa_nil)) (pg_name (i := 4) sc_law.nd rfl (Or.inl rfl))
    (pss_cons (ps_asg (pe_call (ok_bags_of T) (hr.mono (by decide)) rfl T.g_bags_of T.F_bags_of.kp (b_bags_of T) .nil pass0 (pa_cons (pv 2) (pa_cons (pv 1) pa_nil))) (pg_tup (by rfl) (pgs_cons (pg_name (i := 5) sc_law.nd rfl (Or.inl rfl)) (pgs_cons (pg_name (i := 6) sc_law.nd rfl (Or.inl rfl)) pgs_nil))))
    (pss_cons (ps_set (i := 7) sc_law.nd rfl (Or.inl rfl) (pe_ix op_ix (pe_call (ok_made T) (hr.mono (by decide)) rfl T.g_made T.F_made.kp (b_made T) .nil pass0 (pa_cons (pv 2) (pa_cons (pv 1) pa_nil))) pe_int (fun _ _ => rfl)))
    (pss_cons (ps_if (PW.pt (pw_or (pt_cmpR op_notN (pe_call (ok_fault T) (hr.mono (by decide)) rfl T.g_fault T.F_fault.kp (b_fault T) .nil pass0 (pa_cons (pv 7) (pa_cons (pv 5) (pa_cons (pv 6) pa_nil)))) pe_non (by first | exact nomark _ | with_unfolding_all rfl)) (pw_or (pt_cmpR op_gt (pe_call (ok_width_of T) (hr.mono (by decide)) rfl T.g_width_of T.F_width_of.kp (b_width_of T) .nil pass0 (pa_cons (pv 5) pa_nil)) (pv 1) (by first | exact nomark _ | with_unfolding_all rfl)) (pw_or1 (pt_cmpR op_gt (pe_call (ok_most_labels T) (hr.mono (by decide)) rfl T.g_most_labels T.F_most_labels.kp (b_most_labels T) .nil pass0 (pa_cons (pv 2) (pa_cons (pv 1) pa_nil))) (pe_op op_add (pv 1) pe_int) (by first | exact nomark _ | with_unfolding_all rfl))))))
    (pss_one (ps_ret pe_bl))
    pss_nil)
    (pss_cons (ps_asg (pe_call (ok_term_of T LBh) (hr.mono (by decide)) rfl T.g_term_of T.F_term_of.kp (b_term_of T) .nil pass0 (pa_cons (pv 7) (pa_cons (pv 5) (pa_cons (pv 6) (pa_cons (pv 1) pa_nil))))) (pg_tup (by rfl) (pgs_cons (pg_name (i := 8) sc_law.nd rfl (Or.inl rfl)) (pgs_cons (pg_name (i := 9) sc_law.nd rfl (Or.inl rfl)) pgs_nil))))
    (pss_cons (ps_if (pt_cmpR (op_neT (Nat.lt_of_succ_lt hu)) (pe_call (ok_check_term T) (hr.mono (by decide)) rfl T.g_check_term T.F_check_term.kp (b_check_term T) .nil pass0 (pa_cons (pv 8) (pa_cons (pv 1) pa_nil))) (pe_tup (pa_cons (pe_tup pa_nil) (pa_cons (pe_tup pa_nil) pa_nil))) (by first | exact nomark _ | with_unfolding_all rfl))
    (pss_one (ps_ret pe_bl))
    pss_nil)
    (pss_cons (ps_set (i := 10) sc_law.nd rfl (Or.inl rfl) (pe_ix op_ix (pe_call (ok_made T) (hr.mono (by decide)) rfl T.g_made T.F_made.kp (b_made T) .nil pass0 (pa_cons (pv 8) (pa_cons (pv 1) pa_nil))) pe_int (fun _ _ => rfl)))
    (pss_cons (ps_if (PW.pt (pw_or (pt_cmpR op_ne (pe_f (C := T.C_Graph) (pv 10) T.cl_Graph T.n_Graph_size) (pe_f (C := T.C_Graph) (pv 7) T.cl_Graph T.n_Graph_size) (by first | exact nomark _ | with_unfolding_all rfl)) (pw_or (pt_cmpR (op_neT (Nat.lt_of_succ_lt hu)) (pe_call (ok__law_turned T) (hr.mono (by decide)) rfl T.g__law_turned T.F__law_turned.kp (b__law_turned T) .nil pass0 (pa_cons (pv 10) (pa_cons (pv 9) pa_nil))) (pe_f (C := T.C_Graph) (pv 7) T.cl_Graph T.n_Graph_edges) (by first | exact nomark _ | with_unfolding_all rfl)) (pw_or1 (pt_cmpR (op_neD hu64) (pe_callB (cr_sortedD hu) rfl T.z_sorted boot_sorted (pa_cons (pv 9) pa_nil)) (pe_listRg rfl rfl T.z_list (prg_1 rfl T.z_range (pe_f (C := T.C_Graph) (pv 7) T.cl_Graph T.n_Graph_size))) (by first | exact nomark _ | with_unfolding_all rfl))))))
    (pss_one (ps_ret pe_bl))
    pss_nil)
    (pss_cons (ps_if (PW.pt (pw_or (pt_cmpR op_ne (pe_callB cr_len rfl T.z_len boot_len (pa_cons (pe_f (C := T.C_Graph) (pv 10) T.cl_Graph T.n_Graph_edges) pa_nil)) (pe_callB cr_len rfl T.z_len boot_len (pa_cons (pe_f (C := T.C_Graph) (pv 3) T.cl_Graph T.n_Graph_edges) pa_nil)) (by first | exact nomark _ | with_unfolding_all rfl)) (pw_or1 (pt_cmpR op_ne (pe_f (C := T.C_Graph) (pv 10) T.cl_Graph T.n_Graph_size) (pe_f (C := T.C_Graph) (pv 3) T.cl_Graph T.n_Graph_size) (by first | exact nomark _ | with_unfolding_all rfl)))))
    (pss_one (ps_ret pe_bl))
    pss_nil)
    (pss_one (ps_set (i := 2) sc_law.nd rfl (Or.inl rfl) (pv 8))))))))))))
    (pss_one (ps_ret (pe_call (ok_same T) (hr.mono (by decide)) rfl T.g_same T.F_same.kp (b_same T) .nil pass0 (pa_cons (pv 3) (pa_cons (pe_ix op_ix (pe_call (ok_made T) (hr.mono (by decide)) rfl T.g_made T.F_made.kp (b_made T) .nil pass0 (pa_cons (pe_call (ok__law_term T) (hr.mono (by decide)) rfl T.g__law_term T.F__law_term.kp (b__law_term T) .nil pass0 (pa_cons (pe_call (ok__law_cell T) (hr.mono (by decide)) rfl T.g__law_cell T.F__law_cell.kp (b__law_cell T) .nil pass0 (pa_cons (pv 0) (pa_cons pe_int pa_nil))) (pa_cons (pv 1) (pa_cons pe_int pa_nil)))) (pa_cons (pv 1) pa_nil))) pe_int (fun _ _ => rfl)) pa_nil)))))))))
    , ?_⟩
    obtain ⟨k, hk⟩ : ∃ k : Nat, ((ns.getD 0 0).fmod 5) = (k : Int) := ⟨((ns.getD 0 0).fmod 5).toNat, by
      rw [Int.fmod_eq_emod_of_nonneg _ (by decide)]
      omega⟩
    have hk4 : k ≤ 4 := by
      rw [Int.fmod_eq_emod_of_nonneg _ (by decide)] at hk
      omega
    refine ⟨fun σ H' => σ = [some (.ref a), some (vN k), none, none, none, none, none, none, none, none, none] ∧ H' = H, ?_, ?_⟩
    · refine ⟨_, rfl, a, ns, 0, rfl, hS, .inl ⟨_, rfl, _, _, rfl, rfl, (show (5 : Int) ≠ 0 by decide), ?_, rfl⟩⟩
      show [some (V.ref a), some (V.int ((ns.getD 0 0).fmod 5)), none, none, none, none, none, none, none, none, none] = _
      rw [hk]
      rfl
    · rintro σ H0 ⟨rfl, rfl⟩
      -- the first term
      obtain ⟨f0, it0, tl0, ts0, tg0⟩ := SWM.lawT_ok k hk4 (digs (ns.getD 1 0))
      have tok0 : TermOk (SWM.lawT k (digs (ns.getD 1 0))) k := ⟨⟨f0, it0⟩, by omega, by omega⟩
      refine ⟨_, rfl, a, ns, 1, rfl, hS, _, rfl, ns.getD 1 0, k, rfl, hk4, fun H1 v s1 hv => ?_⟩
      refine ⟨_, rfl, _, rfl, v, _, k, rfl, hv, tok0, by omega, fun H2 t2 gp x2 s2 ht2 hg2 => ⟨_, _, _, V.ref gp, rfl, rfl, .inr ht2, at0, ?_⟩⟩
      have s12 := s1.trans s2
      have fr0 : Fr Pt [] H0 H2 := (Fr.refl htab).same s12
      refine ⟨_, rfl, by decide, by decide, for_it walk_range (fun t σ H' => ∃ (v : V) (tm : List SWM.Stp) (f : SWM.Frm) (o4 o5 o6 o7 o8 o9 o10 : Option V), σ = [some (.ref a), some (vN k), some v, some (.ref gp), o4, o5, o6, o7, o8, o9, o10] ∧ Fr Pt [] H0 H' ∧ TD H' v (dT tm) ∧
          GrAt T.C_Graph H' gp (SWM.sizeT (SWM.lawT k (digs (ns.getD 1 0)))) (SWM.graphT (SWM.lawT k (digs (ns.getD 1 0)))) ∧ SWM.IsTerm tm k f ∧ tm.length ≤ bnd t ∧ SWM.sizeT tm = SWM.sizeT (SWM.lawT k (digs (ns.getD 1 0))) ∧ (SWM.graphT tm).length = (SWM.graphT (SWM.lawT k (digs (ns.getD 1 0)))).length)
        ⟨v, _, f0, none, none, none, none, none, none, none, rfl, fr0, hv.mono (Same.t s2), hg2, it0, tl0, rfl, rfl⟩ (fun i σ H' _ _ => True.intro) ?_ ?_⟩
      · generalize SWM.lawT k (digs (ns.getD 1 0)) = T0 at ts0 tg0 hg2 ⊢
        rintro t y σ H3 H3' ht ⟨v3, tm, f, o4, o5, o6, o7, o8, o9, o10, rfl, f3, hv3, hg3, it3, tl3, ts3, tg3⟩ ⟨rfl, rfl⟩
        have ht2 : t < 2 := ht
        have htl : tm.length ≤ 4833 := by
          unfold bnd at tl3
          split at tl3
          · omega
          · split at tl3
            · omega
            · omega
        obtain ⟨R, rd⟩ := SWM.round it3
        have tok3 : TermOk tm k := ⟨⟨f, it3⟩, by omega, by omega⟩
        have hs60 : SWM.sizeT tm ≤ 60 := by omega
        have hwid : ∀ b ∈ SWM.bagsT tm, b.length ≤ 1000 := fun b hb => by
          have := rd.wid b hb
          omega
        have hbl := rd.len
        -- bags_of
        refine ⟨_, rfl, _, rfl, v3, tm, k, rfl, hv3, tok3, hs60, hwid, hbl, fun H4 t4 vb vp s4 ht4 hb4 hp4 => ?_⟩
        refine ⟨_, _, rfl, SqT.of ht4, rfl, _, _, rfl, _, _, rfl, rfl, ?_⟩
        -- made
        refine ⟨_, rfl, _, rfl, v3, tm, k, rfl, hv3.mono (Same.t s4), tok3, hs60, fun H5 t5 gh x5 s5 ht5 hg5 => ⟨_, _, _, V.ref gh, rfl, rfl, .inr ht5, at0, ?_⟩⟩
        have s45 := s4.trans s5
        have hb5 := hb4.mono (Same.t s5)
        have hp5 := hp4.mono (Same.t s5)
        -- the tests
        refine ⟨_, rfl, _, rfl, _, rfl, gh, vb, vp, _, _, _, _, rfl, hg5, hb5, hp5, rd.dec, by omega, by omega, fun H6 s6 => ⟨rfl, _, rfl, ifF rfl ?_⟩⟩
        refine ⟨_, rfl, vb, _, k, rfl, hb5.mono (Same.t s6), rd.dec.ne, rd.wid, by omega, fun H7 m7 s7 hm7 => ⟨_, rfl, _, _, rfl, rfl, _, rfl, ifF (decide_eq_false (by omega)) ?_⟩⟩
        have s47 := s45.trans (s6.trans s7)
        refine ⟨_, rfl, _, rfl, v3, tm, k, rfl, hv3.mono (Same.t s47), tok3, fun H8 m8 s8 hm8 => ⟨_, rfl, _, _, rfl, rfl, _, _, rfl, rfl, _, rfl, ifF (decide_eq_false (by omega)) ?_⟩⟩
        have s48 := s47.trans s8
        have s58 := s6.trans (s7.trans s8)
        have g8 := f3.same s48
        -- term_of
        have hfew := rd.few
        have hmost := rd.most
        refine ⟨_, rfl, _, rfl, _, rfl, _, rfl, gh, vb, vp, _, _, _, _, k, R, rfl, hg5.same s58, hb5.mono (Same.t s58), hp5.mono (Same.t s58), rd.dec, by omega, by omega, by omega, rd.wid, rd.eq, by omega, Nat.le_trans rd.most (by omega), g8.tab, fun H9 t9 u9 w9 f9 ht9 hu9 hw9 => ?_⟩
        refine ⟨_, _, rfl, SqT.of ht9, rfl, _, _, rfl, _, _, rfl, rfl, ?_⟩
        have it9 := rd.term
        have tl9 := rd.most
        have tz9 := rd.size
        have to9 := rd.ord
        have tt9 := rd.turn
        have tm9 := rd.many
        generalize (SWM.wholeSO (SWM.labT tm) (SWM.bagAt (SWM.bagsT tm) 0) (R 0)) = so at it9 tl9 tz9 to9 tt9 tm9 hu9 hw9
        have tok9 : TermOk so.1 k := ⟨⟨_, it9⟩, by omega, by omega⟩
        have g9 := g8.trans f9
        -- check_term
        refine ⟨_, rfl, _, rfl, u9, so.1, k, ([], []), rfl, hu9, tok9, it9, fun H10 vf s10 hvf => ?_⟩
        refine ⟨Nat.zero_le _, fun ta hta => ⟨Nat.zero_le _, fun tb htb => ⟨two_line, fun tc htc => ?_⟩⟩⟩
        have sa := same_new (o := .tup []) hta
        have sb := same_new (o := .tup []) htb
        have sc := same_new (o := .tup [.ref ta, .ref tb]) htc
        have sac := sa.trans (sb.trans sc)
        refine ⟨dF ([], []), dF ([], []), hvf.mono (Same.t sac), .tup upd_same (.cons (.tup ((sb.trans sc) _ _ upd_same) .nil) (.cons (.tup (sc _ _ upd_same) .nil) .nil)), Nice.of (ni_F _) (by decide), Nice.of (ni_F _) (by decide), _, rfl, ifF (by rfl) ?_⟩
        have s10c := s10.trans sac
        generalize upd (upd (upd H10 ta (.tup [])) tb (.tup [])) tc (.tup [.ref ta, .ref tb]) = H11 at s10c ⊢
        -- made
        refine ⟨_, rfl, _, rfl, u9, so.1, k, rfl, hu9.mono (Same.t s10c), tok9, by omega, fun H12 t12 gb x12 s12 ht12 hg12 => ⟨_, _, _, V.ref gb, rfl, rfl, .inr ht12, at0, ?_⟩⟩
        have s912 := s10c.trans s12
        have g12 := g9.same s912
        have hgh12 : GrAt T.C_Graph H12 gh _ _ := ((hg5.same s58).ext f9.ext).same s912
        have hgp12 : GrAt T.C_Graph H12 gp _ _ := ((hg3.same s48).ext f9.ext).same s912
        have hw12 := hw9.mono (Same.t s912)
        have hu12 := hu9.mono (Same.t s912)
        obtain ⟨bx, bf, bv, b1, b2, b3, b4⟩ := id hg12
        obtain ⟨hx, hf, hv', h1, h2, h3, h4⟩ := id hgh12
        obtain ⟨px, pf, pv', p1, p2, p3, p4⟩ := id hgp12
        have hol : so.2.length = SWM.sizeT tm := by
          have := congrArg List.length to9
          rw [SWM.srtN_len, List.length_range] at this
          exact this
        -- sizes
        refine ⟨_, rfl, _, _, _, _, rfl, b1, b2, _, rfl, _, _, _, _, rfl, h1, h2, rfl, _, rfl, ifF (by rw [vdec, decide_eq_true tz9]; rfl) ?_⟩
        -- the edges, turned
        refine ⟨_, rfl, _, rfl, gb, w9, _, _, so.2, rfl, hg12, hw12, fun e he => by
          have := graph_len it9 e he
          omega, by omega, fun H13 vt s13 hvt => ?_⟩
        rw [tt9] at hvt
        refine ⟨_, rfl, _, _, _, _, rfl, s13 _ _ h1, h3, dPs (SWM.graphT tm), dPs (SWM.graphT tm), hvt, h4.mono (Same.t s13), Nice.of (ni_Ps _) (by decide), Nice.of (ni_Ps _) (by decide), _, rfl, ifF (by rw [eqv_Ps]; simp) ?_⟩
        -- the order
        obtain ⟨wa, rfl, hwa⟩ := (hw12.mono (Same.t s13)).natsI
        refine ⟨_, rfl, sortedN so.2 (.inr hwa) (.ofNats _) fun p14 hp14 => ?_⟩
        have s14 := same_new (o := .lst ((SWM.srtN so.2).map vN)) hp14
        refine ⟨_, rfl, _, _, _, _, rfl, s14 _ _ (s13 _ _ h1), h2, _, rfl, RgOk.of_le (by omega) (by omega) (by omega) (by omega), fun p15 hp15 => ?_⟩
        have s15 := same_new (o := .lst (rgV 0 (SWM.sizeT tm : Int))) hp15
        refine ⟨.list ((SWM.srtN so.2).map dN), .list ((List.range (SWM.sizeT tm)).map dN), .lst (SqL.of (s15 _ _ upd_same)) (TDs.dp (.ofNats _)), .lst (SqL.of (by rw [upd_same, rgV_nat])) (TDs.dp (.ofNats _)),
          ((niceAll_map ni_N _).lst (by decide)).shaped, ((niceAll_map ni_N _).lst (by decide)).shaped, _, rfl, ifF (by rw [eqv_L, to9]; simp) ?_⟩
        have s1215 := s13.trans (s14.trans s15)
        -- how many
        obtain ⟨be, bes, rfl, be1, be2⟩ := (b4.mono (Same.t s1215)).tupI
        obtain ⟨pe, pes, rfl, pe1, pe2⟩ := (p4.mono (Same.t s1215)).tupI
        have hbel : bes.length = (SWM.graphT so.1).length := by rw [be2.length]; simp
        have hpel : pes.length = (SWM.graphT T0).length := by rw [pe2.length]; simp
        refine ⟨_, rfl, _, _, _, _, rfl, s1215 _ _ b1, b3, _, _, rfl, .inr be1, _, rfl, _, _, _, _, rfl, s1215 _ _ p1, p3, _, _, rfl, .inr pe1, rfl, _, rfl, ifF (by rw [veq (by rw [hbel, hpel, tm9, tg3])]; rfl) ?_⟩
        refine ⟨_, rfl, _, _, _, _, rfl, s1215 _ _ b1, b2, _, rfl, _, _, _, _, rfl, s1215 _ _ p1, p2, rfl, _, rfl, ifF (by rw [vdec, decide_eq_true (tz9.trans ts3)]; rfl) ?_⟩
        have g15 := g12.same s1215
        refine ⟨_, rfl, u9, so.1, ([], []), _, _, _, _, _, _, _, rfl, g15, hu12.mono (Same.t s1215), hgp12.same s1215, it9, ?_, tz9.trans ts3, tm9.trans tg3⟩
        unfold bnd
        rw [if_neg (by omega)]
        by_cases z : t = 0
        · rw [if_pos (by omega)]
          unfold bnd at tl3
          rw [if_pos z] at tl3
          omega
        · rw [if_neg (by omega)]
          omega
      · rintro σ H3 ⟨v3, tm, f, o4, o5, o6, o7, o8, o9, o10, rfl, f3, hv3, hg3, it3, tl3, ts3, tg3⟩
        have hS3 := SqL.fr hS f3
        refine ⟨_, rfl, _, rfl, a, ns, 1, rfl, hS3, _, rfl, ns.getD 1 0, k, rfl, hk4, fun H4 v4 s4 hv4 => ?_⟩
        refine ⟨_, rfl, v4, _, k, rfl, hv4, tok0, by omega, fun H5 t5 gq x5 s5 ht5 hg5 => ⟨_, _, _, V.ref gq, rfl, rfl, .inr ht5, at0, ?_⟩⟩
        refine ⟨gp, gq, _, _, _, _, rfl, hg3.same (s4.trans s5), hg5, ?_⟩
        rw [decide_eq_true rfl, decide_eq_true rfl]
        exact q _
end
end SW


set_option maxRecDepth 100000
set_option maxHeartbeats 2000000
/-! The facts of the text, from what the head says. Printed by gen_end.py. -/
namespace SW
open PySem PySem.Spec PyProof.Rows L2
theorem htxt {K : PySem.W.Frag} {w : World} {h : Heap} {mg : Str → Option Value} (X : K.In h) (G : h.Ns mainGlobals mg) (c : He.SaysX hfa hfn hts htf hex w h K) :
    ∃ T : Txt K mg w, T.f_law = He.fAd K ("law", none) ∧ T.fd_Rows__by_labels.code = .ref (He.cT K ("Rows", some "_by_labels")).1 := by
  have d := c.t.d
  obtain ⟨hl, ho⟩ := He.ba (show (He.valsB K (He.ga K "LABELS") _ && He.valsB K (He.ga K "OPERANDS") _) = true from c.more)
  obtain ⟨fd_is_integer, F_is_integer⟩ := d.def_ 0 (d := d_is_integer) rfl
  obtain ⟨fd_Graph___init__, F_Graph___init__⟩ := d.def_ 1 (d := d_Graph___init__) rfl
  obtain ⟨fd__is_edge, F__is_edge⟩ := d.def_ 2 (d := d__is_edge) rfl
  obtain ⟨fd_same, F_same⟩ := d.def_ 3 (d := d_same) rfl
  obtain ⟨fd_is_step, F_is_step⟩ := d.def_ 4 (d := d_is_step) rfl
  obtain ⟨fd_next_frame, F_next_frame⟩ := d.def_ 5 (d := d_next_frame) rfl
  obtain ⟨fd_frames_of, F_frames_of⟩ := d.def_ 6 (d := d_frames_of) rfl
  obtain ⟨fd_check_term, F_check_term⟩ := d.def_ 7 (d := d_check_term) rfl
  obtain ⟨fd_most_labels, F_most_labels⟩ := d.def_ 8 (d := d_most_labels) rfl
  obtain ⟨fd_operands, F_operands⟩ := d.def_ 9 (d := d_operands) rfl
  obtain ⟨fd_Building___init__, F_Building___init__⟩ := d.def_ 10 (d := d_Building___init__) rfl
  obtain ⟨fd_Building_take, F_Building_take⟩ := d.def_ 11 (d := d_Building_take) rfl
  obtain ⟨fd_Building__join, F_Building__join⟩ := d.def_ 12 (d := d_Building__join) rfl
  obtain ⟨fd_Building__changed, F_Building__changed⟩ := d.def_ 13 (d := d_Building__changed) rfl
  obtain ⟨fd_Building_number, F_Building_number⟩ := d.def_ 14 (d := d_Building_number) rfl
  obtain ⟨fd_Building_finish, F_Building_finish⟩ := d.def_ 15 (d := d_Building_finish) rfl
  obtain ⟨fd_built, F_built⟩ := d.def_ 16 (d := d_built) rfl
  obtain ⟨fd_made, F_made⟩ := d.def_ 17 (d := d_made) rfl
  obtain ⟨fd__is_tuple_of_vertices, F__is_tuple_of_vertices⟩ := d.def_ 18 (d := d__is_tuple_of_vertices) rfl
  obtain ⟨fd__has_form, F__has_form⟩ := d.def_ 19 (d := d__has_form) rfl
  obtain ⟨fd__tops, F__tops⟩ := d.def_ 20 (d := d__tops) rfl
  obtain ⟨fd_fault, F_fault⟩ := d.def_ 21 (d := d_fault) rfl
  obtain ⟨fd_width_of, F_width_of⟩ := d.def_ 22 (d := d_width_of) rfl
  obtain ⟨fd_bags_of, F_bags_of⟩ := d.def_ 23 (d := d_bags_of) rfl
  obtain ⟨fd__labels, F__labels⟩ := d.def_ 24 (d := d__labels) rfl
  obtain ⟨fd_Rows___init__, F_Rows___init__⟩ := d.def_ 25 (d := d_Rows___init__) rfl
  obtain ⟨fd_Rows__by_labels, F_Rows__by_labels⟩ := d.def_ 26 (d := d_Rows__by_labels) rfl
  obtain ⟨fd_Rows__from_child, F_Rows__from_child⟩ := d.def_ 27 (d := d_Rows__from_child) rfl
  obtain ⟨fd_Rows_do, F_Rows_do⟩ := d.def_ 28 (d := d_Rows_do) rfl
  obtain ⟨fd_Rows_whole, F_Rows_whole⟩ := d.def_ 29 (d := d_Rows_whole) rfl
  obtain ⟨fd_term_of, F_term_of⟩ := d.def_ 30 (d := d_term_of) rfl
  obtain ⟨fd__law_cell, F__law_cell⟩ := d.def_ 31 (d := d__law_cell) rfl
  obtain ⟨fd__law_mixed, F__law_mixed⟩ := d.def_ 32 (d := d__law_mixed) rfl
  obtain ⟨fd__law_digits, F__law_digits⟩ := d.def_ 33 (d := d__law_digits) rfl
  obtain ⟨fd__law_frame, F__law_frame⟩ := d.def_ 34 (d := d__law_frame) rfl
  obtain ⟨fd__law_put, F__law_put⟩ := d.def_ 35 (d := d__law_put) rfl
  obtain ⟨fd__law_put_join, F__law_put_join⟩ := d.def_ 36 (d := d__law_put_join) rfl
  obtain ⟨fd__law_term, F__law_term⟩ := d.def_ 37 (d := d__law_term) rfl
  obtain ⟨fd__law_turned, F__law_turned⟩ := d.def_ 38 (d := d__law_turned) rfl
  obtain ⟨fd_law, F_law⟩ := d.def_ 39 (d := d_law) rfl
  refine ⟨{
    f_is_integer := He.fAd K ("is_integer", none),
    fd_is_integer := fd_is_integer,
    F_is_integer := F_is_integer,
    g_is_integer := He.glo_ok X G (d.fact 0 (f := .glo "is_integer") rfl),
    f_Graph___init__ := He.fAd K ("Graph", some "__init__"),
    fd_Graph___init__ := fd_Graph___init__,
    F_Graph___init__ := F_Graph___init__,
    f__is_edge := He.fAd K ("_is_edge", none),
    fd__is_edge := fd__is_edge,
    F__is_edge := F__is_edge,
    g__is_edge := He.glo_ok X G (d.fact 1 (f := .glo "_is_edge") rfl),
    f_same := He.fAd K ("same", none),
    fd_same := fd_same,
    F_same := F_same,
    g_same := He.glo_ok X G (d.fact 2 (f := .glo "same") rfl),
    f_is_step := He.fAd K ("is_step", none),
    fd_is_step := fd_is_step,
    F_is_step := F_is_step,
    g_is_step := He.glo_ok X G (d.fact 3 (f := .glo "is_step") rfl),
    f_next_frame := He.fAd K ("next_frame", none),
    fd_next_frame := fd_next_frame,
    F_next_frame := F_next_frame,
    g_next_frame := He.glo_ok X G (d.fact 4 (f := .glo "next_frame") rfl),
    f_frames_of := He.fAd K ("frames_of", none),
    fd_frames_of := fd_frames_of,
    F_frames_of := F_frames_of,
    g_frames_of := He.glo_ok X G (d.fact 5 (f := .glo "frames_of") rfl),
    f_check_term := He.fAd K ("check_term", none),
    fd_check_term := fd_check_term,
    F_check_term := F_check_term,
    g_check_term := He.glo_ok X G (d.fact 6 (f := .glo "check_term") rfl),
    f_most_labels := He.fAd K ("most_labels", none),
    fd_most_labels := fd_most_labels,
    F_most_labels := F_most_labels,
    g_most_labels := He.glo_ok X G (d.fact 7 (f := .glo "most_labels") rfl),
    f_operands := He.fAd K ("operands", none),
    fd_operands := fd_operands,
    F_operands := F_operands,
    g_operands := He.glo_ok X G (d.fact 8 (f := .glo "operands") rfl),
    f_Building___init__ := He.fAd K ("Building", some "__init__"),
    fd_Building___init__ := fd_Building___init__,
    F_Building___init__ := F_Building___init__,
    f_Building_take := He.fAd K ("Building", some "take"),
    fd_Building_take := fd_Building_take,
    F_Building_take := F_Building_take,
    f_Building__join := He.fAd K ("Building", some "_join"),
    fd_Building__join := fd_Building__join,
    F_Building__join := F_Building__join,
    f_Building__changed := He.fAd K ("Building", some "_changed"),
    fd_Building__changed := fd_Building__changed,
    F_Building__changed := F_Building__changed,
    f_Building_number := He.fAd K ("Building", some "number"),
    fd_Building_number := fd_Building_number,
    F_Building_number := F_Building_number,
    f_Building_finish := He.fAd K ("Building", some "finish"),
    fd_Building_finish := fd_Building_finish,
    F_Building_finish := F_Building_finish,
    f_built := He.fAd K ("built", none),
    fd_built := fd_built,
    F_built := F_built,
    g_built := He.glo_ok X G (d.fact 9 (f := .glo "built") rfl),
    f_made := He.fAd K ("made", none),
    fd_made := fd_made,
    F_made := F_made,
    g_made := He.glo_ok X G (d.fact 10 (f := .glo "made") rfl),
    f__is_tuple_of_vertices := He.fAd K ("_is_tuple_of_vertices", none),
    fd__is_tuple_of_vertices := fd__is_tuple_of_vertices,
    F__is_tuple_of_vertices := F__is_tuple_of_vertices,
    g__is_tuple_of_vertices := He.glo_ok X G (d.fact 11 (f := .glo "_is_tuple_of_vertices") rfl),
    f__has_form := He.fAd K ("_has_form", none),
    fd__has_form := fd__has_form,
    F__has_form := F__has_form,
    g__has_form := He.glo_ok X G (d.fact 12 (f := .glo "_has_form") rfl),
    f__tops := He.fAd K ("_tops", none),
    fd__tops := fd__tops,
    F__tops := F__tops,
    g__tops := He.glo_ok X G (d.fact 13 (f := .glo "_tops") rfl),
    f_fault := He.fAd K ("fault", none),
    fd_fault := fd_fault,
    F_fault := F_fault,
    g_fault := He.glo_ok X G (d.fact 14 (f := .glo "fault") rfl),
    f_width_of := He.fAd K ("width_of", none),
    fd_width_of := fd_width_of,
    F_width_of := F_width_of,
    g_width_of := He.glo_ok X G (d.fact 15 (f := .glo "width_of") rfl),
    f_bags_of := He.fAd K ("bags_of", none),
    fd_bags_of := fd_bags_of,
    F_bags_of := F_bags_of,
    g_bags_of := He.glo_ok X G (d.fact 16 (f := .glo "bags_of") rfl),
    f__labels := He.fAd K ("_labels", none),
    fd__labels := fd__labels,
    F__labels := F__labels,
    g__labels := He.glo_ok X G (d.fact 17 (f := .glo "_labels") rfl),
    f_Rows___init__ := He.fAd K ("Rows", some "__init__"),
    fd_Rows___init__ := fd_Rows___init__,
    F_Rows___init__ := F_Rows___init__,
    f_Rows__by_labels := He.fAd K ("Rows", some "_by_labels"),
    fd_Rows__by_labels := fd_Rows__by_labels,
    F_Rows__by_labels := F_Rows__by_labels,
    f_Rows__from_child := He.fAd K ("Rows", some "_from_child"),
    fd_Rows__from_child := fd_Rows__from_child,
    F_Rows__from_child := F_Rows__from_child,
    f_Rows_do := He.fAd K ("Rows", some "do"),
    fd_Rows_do := fd_Rows_do,
    F_Rows_do := F_Rows_do,
    f_Rows_whole := He.fAd K ("Rows", some "whole"),
    fd_Rows_whole := fd_Rows_whole,
    F_Rows_whole := F_Rows_whole,
    f_term_of := He.fAd K ("term_of", none),
    fd_term_of := fd_term_of,
    F_term_of := F_term_of,
    g_term_of := He.glo_ok X G (d.fact 18 (f := .glo "term_of") rfl),
    f__law_cell := He.fAd K ("_law_cell", none),
    fd__law_cell := fd__law_cell,
    F__law_cell := F__law_cell,
    g__law_cell := He.glo_ok X G (d.fact 19 (f := .glo "_law_cell") rfl),
    f__law_mixed := He.fAd K ("_law_mixed", none),
    fd__law_mixed := fd__law_mixed,
    F__law_mixed := F__law_mixed,
    g__law_mixed := He.glo_ok X G (d.fact 20 (f := .glo "_law_mixed") rfl),
    f__law_digits := He.fAd K ("_law_digits", none),
    fd__law_digits := fd__law_digits,
    F__law_digits := F__law_digits,
    g__law_digits := He.glo_ok X G (d.fact 21 (f := .glo "_law_digits") rfl),
    f__law_frame := He.fAd K ("_law_frame", none),
    fd__law_frame := fd__law_frame,
    F__law_frame := F__law_frame,
    g__law_frame := He.glo_ok X G (d.fact 22 (f := .glo "_law_frame") rfl),
    f__law_put := He.fAd K ("_law_put", none),
    fd__law_put := fd__law_put,
    F__law_put := F__law_put,
    g__law_put := He.glo_ok X G (d.fact 23 (f := .glo "_law_put") rfl),
    f__law_put_join := He.fAd K ("_law_put_join", none),
    fd__law_put_join := fd__law_put_join,
    F__law_put_join := F__law_put_join,
    g__law_put_join := He.glo_ok X G (d.fact 24 (f := .glo "_law_put_join") rfl),
    f__law_term := He.fAd K ("_law_term", none),
    fd__law_term := fd__law_term,
    F__law_term := F__law_term,
    g__law_term := He.glo_ok X G (d.fact 25 (f := .glo "_law_term") rfl),
    f__law_turned := He.fAd K ("_law_turned", none),
    fd__law_turned := fd__law_turned,
    F__law_turned := F__law_turned,
    g__law_turned := He.glo_ok X G (d.fact 26 (f := .glo "_law_turned") rfl),
    f_law := He.fAd K ("law", none),
    fd_law := fd_law,
    F_law := F_law,
    g_law := He.glo_ok X G (d.fact 27 (f := .glo "law") rfl),
    C_Graph := He.ga K "Graph",
    gC_Graph := He.glo_ok X G (d.fact 28 (f := .glo "Graph") rfl),
    cl_Graph := He.cls_ok (d.fact 52 (f := .cls "Graph") rfl),
    mk_Graph := He.mkr_ok (d.fact 53 (f := .mkr "Graph") rfl),
    n_Graph_size := He.noat_ok (d.fact 54 (f := .noat "Graph" "size") rfl),
    n_Graph_edges := He.noat_ok (d.fact 55 (f := .noat "Graph" "edges") rfl),
    n_Graph__near := He.noat_ok (d.fact 56 (f := .noat "Graph" "_near") rfl),
    C_Building := He.ga K "Building",
    gC_Building := He.glo_ok X G (d.fact 29 (f := .glo "Building") rfl),
    cl_Building := He.cls_ok (d.fact 57 (f := .cls "Building") rfl),
    mk_Building := He.mkr_ok (d.fact 58 (f := .mkr "Building") rfl),
    n_Building__stack := He.noat_ok (d.fact 59 (f := .noat "Building" "_stack") rfl),
    n_Building__becomes := He.noat_ok (d.fact 60 (f := .noat "Building" "_becomes") rfl),
    n_Building__edges := He.noat_ok (d.fact 61 (f := .noat "Building" "_edges") rfl),
    n_Building__tokens := He.noat_ok (d.fact 62 (f := .noat "Building" "_tokens") rfl),
    n_Building_shown := He.noat_ok (d.fact 63 (f := .noat "Building" "shown") rfl),
    n_Building__before := He.noat_ok (d.fact 64 (f := .noat "Building" "_before") rfl),
    n_Building__numbers := He.noat_ok (d.fact 65 (f := .noat "Building" "_numbers") rfl),
    m_Building_take := He.meth_ok (d.fact 66 (f := .meth "Building" "take") rfl),
    m_Building__join := He.meth_ok (d.fact 67 (f := .meth "Building" "_join") rfl),
    m_Building__changed := He.meth_ok (d.fact 68 (f := .meth "Building" "_changed") rfl),
    m_Building_number := He.meth_ok (d.fact 69 (f := .meth "Building" "number") rfl),
    m_Building_finish := He.meth_ok (d.fact 70 (f := .meth "Building" "finish") rfl),
    C_Rows := He.ga K "Rows",
    gC_Rows := He.glo_ok X G (d.fact 30 (f := .glo "Rows") rfl),
    cl_Rows := He.cls_ok (d.fact 71 (f := .cls "Rows") rfl),
    mk_Rows := He.mkr_ok (d.fact 72 (f := .mkr "Rows") rfl),
    n_Rows__bags := He.noat_ok (d.fact 73 (f := .noat "Rows" "_bags") rfl),
    n_Rows__labels := He.noat_ok (d.fact 74 (f := .noat "Rows" "_labels") rfl),
    n_Rows__edges := He.noat_ok (d.fact 75 (f := .noat "Rows" "_edges") rfl),
    n_Rows__children := He.noat_ok (d.fact 76 (f := .noat "Rows" "_children") rfl),
    n_Rows__done := He.noat_ok (d.fact 77 (f := .noat "Rows" "_done") rfl),
    m_Rows__by_labels := He.meth_ok (d.fact 78 (f := .meth "Rows" "_by_labels") rfl),
    m_Rows__from_child := He.meth_ok (d.fact 79 (f := .meth "Rows" "_from_child") rfl),
    m_Rows_do := He.meth_ok (d.fact 80 (f := .meth "Rows" "do") rfl),
    m_Rows_whole := He.meth_ok (d.fact 81 (f := .meth "Rows" "whole") rfl),
    z_isinstance := He.free_ok X G (d.fact 33 (f := .free "isinstance") rfl),
    z_int := He.free_ok X G (d.fact 34 (f := .free "int") rfl),
    z_bool := He.free_ok X G (d.fact 35 (f := .free "bool") rfl),
    z_tuple := He.free_ok X G (d.fact 36 (f := .free "tuple") rfl),
    z_str := He.free_ok X G (d.fact 37 (f := .free "str") rfl),
    z_len := He.free_ok X G (d.fact 38 (f := .free "len") rfl),
    z_range := He.free_ok X G (d.fact 39 (f := .free "range") rfl),
    z_sorted := He.free_ok X G (d.fact 40 (f := .free "sorted") rfl),
    z_all := He.free_ok X G (d.fact 41 (f := .free "all") rfl),
    z_any := He.free_ok X G (d.fact 42 (f := .free "any") rfl),
    z_max := He.free_ok X G (d.fact 43 (f := .free "max") rfl),
    z_min := He.free_ok X G (d.fact 44 (f := .free "min") rfl),
    z_list := He.free_ok X G (d.fact 45 (f := .free "list") rfl),
    z_dict := He.free_ok X G (d.fact 46 (f := .free "dict") rfl),
    z_enumerate := He.free_ok X G (d.fact 47 (f := .free "enumerate") rfl),
    z_reversed := He.free_ok X G (d.fact 48 (f := .free "reversed") rfl),
    i_MOST_VERTICES := He.int_ok X G (d.fact 49 (f := .int "MOST_VERTICES" 60) rfl),
    i_MOST_STEPS := He.int_ok X G (d.fact 50 (f := .int "MOST_STEPS" 20000) rfl),
    i_MOST_LABEL := He.int_ok X G (d.fact 51 (f := .int "MOST_LABEL" 12) rfl),
    a_LABELS := He.ga K "LABELS",
    g_LABELS := He.glo_ok X G (d.fact 31 (f := .glo "LABELS") rfl),
    k_LABELS := c.t.tab 0 (t := (fun K => He.ga K "LABELS", ["empty", "new", "edge", "forget", "join"])) rfl,
    v_LABELS_empty := He.valsB_ok hl (q := ("empty", .int 0)) (by simp),
    v_LABELS_new := He.valsB_ok hl (q := ("new", .int 1)) (by simp),
    v_LABELS_edge := He.valsB_ok hl (q := ("edge", .int 2)) (by simp),
    v_LABELS_forget := He.valsB_ok hl (q := ("forget", .int 1)) (by simp),
    v_LABELS_join := He.valsB_ok hl (q := ("join", .int 0)) (by simp),
    a_OPERANDS := He.ga K "OPERANDS",
    g_OPERANDS := He.glo_ok X G (d.fact 32 (f := .glo "OPERANDS") rfl),
    k_OPERANDS := c.t.tab 1 (t := (fun K => He.ga K "OPERANDS", ["empty", "new", "edge", "forget", "join"])) rfl,
    v_OPERANDS_empty := He.valsB_ok ho (q := ("empty", .int 0)) (by simp),
    v_OPERANDS_new := He.valsB_ok ho (q := ("new", .int 1)) (by simp),
    v_OPERANDS_edge := He.valsB_ok ho (q := ("edge", .int 1)) (by simp),
    v_OPERANDS_forget := He.valsB_ok ho (q := ("forget", .int 1)) (by simp),
    v_OPERANDS_join := He.valsB_ok ho (q := ("join", .int 2)) (by simp) }, rfl, ?_⟩
  obtain ⟨oc, od, dV, kV, doc, pm, an, cdv, ct, osl, e, lk, hcd, _, _⟩ := F_Rows__by_labels.ex
  obtain ⟨c0, ec⟩ := He.codeIn_ref hcd
  have e2 : fd_Rows__by_labels.code = .ref c0 := by rw [e]; exact ec
  have e3 : He.codeOf K ("Rows", some "_by_labels") = c0 := He.codeOf_eq lk e2
  show fd_Rows__by_labels.code = .ref (He.codeOf K ("Rows", some "_by_labels"))
  rw [e3]
  exact e2
end SW


set_option maxRecDepth 100000
set_option maxHeartbeats 2000000
/-! The end. -/
namespace SW
open PySem PySem.Spec PyProof.Rows L2
theorem hlaw {w : World} {mg : Str → Option Value} {fa : Addr} {h : Heap} (Y : hk.says w h) (G : h.Ns mainGlobals mg) (hmg : mg ("law" : Str) = some (.ref fa)) :
    ∃ K : PySem.W.Frag, K.In h ∧ LamX.LawAtS PySem.Challenge.rw_smallwidth_k16_whole_terms_and_bags w K CX0 8 63 "_law_script" mg fa h := by
  obtain ⟨K, X, c⟩ := Y
  obtain ⟨T, eT, eC⟩ := htxt X G c
  have eF : T.f_law = fa := by
    have e := T.g_law.symm.trans hmg
    cases e
    rfl
  have hm : (("Rows", some "_by_labels") : He.Defn) ∈ htf := List.mem_singleton.mpr rfl
  have b : ∀ (s : Shared) (u : Value), BindsTo s T.fd_law ⟨[u], []⟩ [("_law_script", u)] := fun s u => FunD.bindsA (ps := ["_law_script"]) T.F_law (fun _ _ _ _ _ _ us hl => match us, hl with | [_], _ => rfl) s [u] rfl
  refine ⟨K, X, T.fd_law, [He.cT K ("Rows", some "_by_labels")], sp_law K (He.cT K ("Rows", some "_by_labels")).2, fun p hp => ?_, fun p hp => ?_, fun p hp => ?_, b, fun H a ns hl _ hT hS => ?_, fun base hK hG hTB => ?_⟩
  · rw [List.mem_singleton.mp hp]; exact c.empty _ hm
  · rw [List.mem_singleton.mp hp]; exact c.out _ hm
  · rw [List.mem_singleton.mp hp]; exact PySem.W.codeHd_of_K X (c.hd _ hm)
  · exact ⟨a, ns, rfl, hS, fun q hq => by rw [List.mem_singleton.mp hq]; exact LamX.TabS.nil (hT _ (List.mem_singleton.mpr rfl)), fun _ => rfl⟩
  · rw [← eF]; exact ok_law T ⟨eC, hTB _ (List.mem_singleton.mpr rfl)⟩
end SW
open PySem PySem.W PySem.Calls PyProof.Rows
theorem PySem.Challenge.cw_smallwidth_k16_whole_terms_and_bags_holds : PySem.Challenge.rw_smallwidth_k16_whole_terms_and_bags.Holds := by
  w_on; o_law
  refine HandSHeadRun.head_any (r := OpenLaw.row PySem.Challenge.rw_smallwidth_k16_whole_terms_and_bags) (q := view (OpenLaw.row PySem.Challenge.rw_smallwidth_k16_whole_terms_and_bags).prog [47]) (H := SW.hk) (ob := SW.hob) (M := 20000) (loose := SW.loose) (d := HandSHeadRun.topDef (OpenLaw.row PySem.Challenge.rw_smallwidth_k16_whole_terms_and_bags).prog 47) (kwd := []) SW.hob_eq
    (by kernel_rfl) (fun s => by kernel_rfl) SW.hrun (by kernel_rfl) (by kernel_rfl) (by kernel_rfl) (by rfl) (by first | assumption | decide +kernel) (by decide +kernel) ⟨rfl, rfl, rfl, rfl, rfl, by decide +kernel⟩ ?hw ?hc
  case hw => w_witness2
  case hc =>
    refine LamX.walk_ofTsE (l := PySem.Challenge.rw_smallwidth_k16_whole_terms_and_bags) (n := 63) (k := 8) (x := "_law_script") (CX := fun _ => L2.CX0) rfl (by decide) (by kernel_rfl) ⟨rfl, by decide, by decide⟩ ?F (fun _ _ _ _ _ z => z)
    intro w mg fa h Y G hmg0
    have hmg : mg ("law" : PySem.Str) = some (.ref fa) := by
      have e : (HandSHeadRun.topDef (OpenLaw.row PySem.Challenge.rw_smallwidth_k16_whole_terms_and_bags).prog 47).name = ("law" : PySem.Str) := by kernel_rfl
      rw [← e]
      exact hmg0
    exact SW.hlaw Y G hmg


