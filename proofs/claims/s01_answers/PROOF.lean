import PyProof.Rows.All
import Wide.All
import OpenK.AllK
import Wide.FinOn
import PyProof.EqAt
import PyProof.EqKinds
import PyProof.TupleCall
import Open.SpecLaws
import KE.OsGo
import PySem.Challenge.RW_joinedstreams_s01_answers
import HandS.ForSpec
import HandS.Comp
import HandS.TupLe
import HandS.SortKw
import KE.SortKeyHeap
set_option Elab.async false
set_option linter.all false
set_option maxRecDepth 100000
set_option maxHeartbeats 2000000
namespace JM
open Hs06

/-! ### 1. The mirror: one record for the join, one total function a def. A side: false is the left one (0), true the right one (1) -/
structure M where
  kind : Nat
  ahead : Nat
  after : Nat
  eager : Bool
  mark : Bool → Nat
  taken : Bool → Nat
  kept : Bool → List Row
  aside : Nat
  vers : List Row
def up {α : Type} (f : Bool → α) (s : Bool) (v : α) : Bool → α := fun b => if b = s then v else f b
theorem up_same {α : Type} {f : Bool → α} {s : Bool} {v : α} : up f s v s = v := if_pos rfl
theorem up_ne {α : Type} {f : Bool → α} {s b : Bool} {v : α} (h : b ≠ s) : up f s v b = f b := if_neg h
def new (k a b : Nat) (e : Bool) : M := ⟨k, a, b, e, fun _ => 0, fun _ => 0, fun _ => [], 0, []⟩
def M.alone (m : M) (s : Bool) : Bool := if s = true then m.kind == 2 else (m.kind == 1 || m.kind == 2)
def M.once (m : M) (s : Bool) : Bool := m.eager && m.alone s
def M.late (m : M) (s : Bool) : Bool := !m.eager && m.alone s
def M.meet (m : M) (s : Bool) (r o : Row) : Bool :=
  r.key == o.key && (if s = true then decide (o.t ≤ r.t + m.ahead) && decide (r.t ≤ o.t + m.after) else decide (r.t ≤ o.t + m.ahead) && decide (o.t ≤ r.t + m.after))
def M.want (m : M) (s : Bool) (r : Row) (k : Nat) : Bool := decide (k ≤ 1000000) && decide (k ≤ r.t + (if s = true then m.ahead else m.after))
def chAlone (w s : Bool) (r : Row) : Change := if s = true then (w, 0, r.id) else (w, r.id, 0)
def chPair (s : Bool) (r o : Row) : Change := if s = true then (true, o.id, r.id) else (true, r.id, o.id)
def touch (b : Bool) (r : Row) : Row := if b = true then { r with met := true } else r
def M.chOne (m : M) (s : Bool) (r o : Row) : List Change :=
  if m.meet s r o = true then (if (!o.met && m.once (!s)) = true then [chAlone false (!s) o] else []) ++ [chPair s r o] else []
def M.metAll (m : M) (s : Bool) (r : Row) : List Change := (m.kept (!s)).flatMap (m.chOne s r)
def M.touched (m : M) (s : Bool) (r : Row) : List Row := (m.kept (!s)).map fun o => touch (m.meet s r o) o
def M.metAny (m : M) (s : Bool) (r : Row) : Bool := (m.kept (!s)).any (m.meet s r)
def M.keptMeet (m : M) (s : Bool) (r : Row) : Bool → List Row :=
  up (up m.kept (!s) (m.touched s r)) s (if m.want s r (m.mark (!s)) = true then m.kept s ++ [touch (m.metAny s r) r] else m.kept s)
def M.chMeet (m : M) (s : Bool) (r : Row) : List Change :=
  m.metAll s r ++ (if (!(m.metAny s r) && (m.once s || (m.late s && !(m.want s r (m.mark (!s)))))) = true then [chAlone true s r] else [])
def hold1 (key t : Nat) (f : Option Row) (o : Row) : Option Row :=
  if (o.key == key && (decide (o.t ≤ t) && (match f with | none => true | some g => newer o g))) = true then some o else f
def holding (vs : List Row) (key t : Nat) : Option Row := vs.foldl (hold1 key t) none
def end1 (v : Row) (f : Nat) (o : Row) : Nat := if (o.key == v.key && newer o v) = true then min f o.t else f
def endOf (vs : List Row) (v : Row) : Nat := vs.foldl (end1 v) 1000001
def asked (v : Row) (e : Nat) (ls : List Row) : Bool := ls.any fun l => l.key == v.key && (decide (v.t ≤ l.t) && decide (l.t < e))
def keptV (vs : List Row) (ls : List Row) (k : Nat) (v : Row) : Bool := asked v (endOf vs v) ls || decide (max v.t k < endOf vs v)
def M.toldAt (m : M) (r : Row) : Change := match holding m.vers r.key r.t with
  | none => (true, r.id, 0)
  | some v => (true, r.id, v.id)
def M.moment (m : M) (s : Bool) (r : Row) : M × List Change :=
  if s = true then ({ m with vers := m.vers ++ [r] }, [])
  else if r.t < m.mark true then (m, [m.toldAt r]) else ({ m with kept := up m.kept false (m.kept false ++ [r]) }, [])
def M.enter (m : M) (s : Bool) (r : Row) : M × List Change := if m.kind = 3 then m.moment s r else ({ m with kept := m.keptMeet s r }, m.chMeet s r)
def M.took (m : M) (s : Bool) : M := { m with taken := up m.taken s (m.taken s + 1) }
def M.come (m : M) (s : Bool) (key t : Nat) : M × List Int :=
  if t < m.mark s then ({ m with aside := m.aside + 1 }, Hs06.ints [0, 0])
  else (((m.took s).enter s ⟨m.taken s + 1, key, t, false⟩).1, Hs06.ints ((m.taken s + 1) :: changes ((m.took s).enter s ⟨m.taken s + 1, key, t, false⟩).2))
def M.goOf (m : M) (s : Bool) : M × List Change :=
  ({ m with kept := up m.kept s ((m.kept s).filter fun r => m.want s r (m.mark (!s))) },
    if m.late s = true then (((m.kept s).filter fun r => !m.want s r (m.mark (!s))).filter fun r => !r.met).map (chAlone true s) else [])
def leR (a b : Row) : Bool := decide ((a.t : Int) < b.t ∨ ((a.t : Int) = b.t ∧ (a.id : Int) ≤ b.id))
def M.endWait (m : M) : M × List Change :=
  ({ m with kept := up m.kept false ((m.kept false).filter fun r => decide (m.mark true ≤ r.t)) },
    (((m.kept false).filter fun r => decide (r.t < m.mark true)).mergeSort leR).map m.toldAt)
def M.marked (m : M) (s : Bool) (t : Nat) : M := { m with mark := up m.mark s t }
def M.raise (m : M) (s : Bool) (t : Nat) : M × List Change :=
  if m.kind = 3 then (if s = true then (m.marked s t).endWait else (m.marked s t, [])) else (m.marked s t).goOf (!s)
def M.shown (m : M) (s : Bool) : List Row :=
  if s = false ∨ m.kind ≠ 3 then m.kept s else m.vers.filter (keptV m.vers (m.kept false) (m.mark false))
def M.exec (m : M) : Call → Except Int (M × List Int)
  | .begin_ k a b e =>
    if 3 < k then .error (-1)
    else if 100000 < a ∨ 100000 < b then .error (-2)
    else if k = 3 ∧ ¬ (a = 0 ∧ b = 0) then .error (-2)
    else if 1 < e ∨ (e ≠ 0 ∧ (k = 0 ∨ k = 3)) then .error (-3)
    else .ok (new k a b (e == 1), [0])
  | .left k t => if 1000000 < t then .error (-2) else .ok (m.come false k t)
  | .right k t => if 1000000 < t then .error (-2) else .ok (m.come true k t)
  | .markL t => if t < m.mark false then .error (-2) else if 1000001 < t then .error (-3) else .ok ((m.raise false t).1, Hs06.ints (changes (m.raise false t).2))
  | .markR t => if t < m.mark true then .error (-2) else if 1000001 < t then .error (-3) else .ok ((m.raise true t).1, Hs06.ints (changes (m.raise true t).2))
  | .lefts => .ok (m, Hs06.ints (rows (m.shown false)))
  | .rights => .ok (m, Hs06.ints (rows (m.shown true)))
  | .counts => .ok (m, Hs06.ints [m.taken false, m.taken true, m.aside, m.mark false, m.mark true])
  | .at_ k t => if m.kind ≠ 3 then .error (-4) else if 1000000 < t then .error (-2) else if t < m.mark false then .error (-5) else
      .ok (m, match holding m.vers k t with
        | none => [0]
        | some v => Hs06.ints [v.id, v.t])
def M.step (m : M) (c : Call) : M × List Int := match m.exec c with
  | .error n => (m, [n])
  | .ok r => r
def runAll : M → List Call → List Int
  | _, [] => []
  | m, c :: r => (((m.step c).2.length : Int) :: (m.step c).2) ++ runAll (m.step c).1 r

/-! ### 2. The newest version -/
def lt2 (x y : Row) : Prop := x.t < y.t ∨ (x.t = y.t ∧ x.id < y.id)
theorem newer_iff {x y : Row} : newer x y = true ↔ lt2 y x := by
  unfold newer lt2
  simp only [Bool.or_eq_true, Bool.and_eq_true, decide_eq_true_eq, beq_iff_eq]
  omega
theorem newer_no {x y : Row} : newer x y = false ↔ ¬ lt2 y x := by
  rw [← newer_iff]; cases newer x y <;> simp
/-- y is a newest of l -/
def Top (l : List Row) (y : Row) : Prop := y ∈ l ∧ ∀ x ∈ l, ¬ lt2 y x
theorem newest_top : ∀ {l : List Row} {y : Row}, newest l = some y → Top l y
  | [], y, h => by cases h
  | x :: r, y, h => by
    unfold newest at h
    cases e : newest r with
    | none =>
      rw [e] at h
      cases h
      have hr : r = [] := by
        cases r with
        | nil => rfl
        | cons a b =>
          unfold newest at e
          cases q : newest b with
          | none => rw [q] at e; cases e
          | some z => rw [q] at e; cases e
      subst hr
      refine ⟨List.mem_cons_self, fun z hz => ?_⟩
      rcases List.mem_cons.mp hz with rfl | hz
      · unfold lt2; omega
      · cases hz
    | some z =>
      rw [e] at h
      replace h : some (if newer x z = true then x else z) = some y := h
      obtain ⟨t1, t2⟩ := newest_top e
      by_cases c : newer x z = true
      · rw [if_pos c] at h
        cases h
        refine ⟨List.mem_cons_self, fun w hw => ?_⟩
        rcases List.mem_cons.mp hw with rfl | hw
        · unfold lt2; omega
        · have a := t2 w hw
          have b := newer_iff.mp c
          unfold lt2 at *
          omega
      · rw [if_neg c] at h
        cases h
        refine ⟨List.mem_cons_of_mem _ t1, fun w hw => ?_⟩
        rcases List.mem_cons.mp hw with rfl | hw
        · exact fun q => c (newer_iff.mpr q)
        · exact t2 w hw
theorem newest_some {l : List Row} (h : l ≠ []) : ∃ y, newest l = some y := by
  cases l with
  | nil => exact absurd rfl h
  | cons x r =>
    unfold newest
    cases newest r with
    | none => exact ⟨_, rfl⟩
    | some z => exact ⟨_, rfl⟩
def pHold (key t : Nat) (o : Row) : Bool := o.key == key && decide (o.t ≤ t)
theorem hold_fold (key t : Nat) : ∀ (l : List Row) (f : Option Row) (p : List Row), (match f with | none => p = [] | some y => Top p y) →
    (match l.foldl (hold1 key t) f with | none => p ++ l.filter (pHold key t) = [] | some y => Top (p ++ l.filter (pHold key t)) y)
  | [], f, p, h => by
    simp only [List.foldl_nil, List.filter_nil, List.append_nil]
    exact h
  | o :: l, f, p, h => by
    rw [List.foldl_cons]
    by_cases c : pHold key t o = true
    · rw [List.filter_cons_of_pos c, show p ++ o :: List.filter (pHold key t) l = (p ++ [o]) ++ List.filter (pHold key t) l by simp]
      have c' : o.key == key ∧ decide (o.t ≤ t) = true := by
        unfold pHold at c
        simpa using c
      refine hold_fold key t l _ (p ++ [o]) ?_
      unfold hold1
      rw [c'.1, c'.2]
      simp only [Bool.true_and]
      cases f with
      | none =>
        simp only [if_true]
        have hp : p = [] := h
        subst hp
        refine ⟨by simp, fun x hx => ?_⟩
        have : x = o := by simpa using hx
        subst this
        unfold lt2; omega
      | some g =>
        have hp : Top p g := h
        by_cases n : newer o g = true
        · simp only [n, if_true]
          refine ⟨by simp, fun x hx => ?_⟩
          have b := newer_iff.mp n
          rcases List.mem_append.mp hx with hx | hx
          · have a := hp.2 x hx
            unfold lt2 at *
            omega
          · have : x = o := by simpa using hx
            subst this
            unfold lt2; omega
        · simp only [n]
          refine ⟨List.mem_append_left _ hp.1, fun x hx => ?_⟩
          rcases List.mem_append.mp hx with hx | hx
          · exact hp.2 x hx
          · have : x = o := by simpa using hx
            subst this
            exact fun q => n (newer_iff.mpr q)
    · rw [List.filter_cons_of_neg c]
      have e : hold1 key t f o = f := by
        unfold hold1
        refine if_neg ?_
        intro q
        refine c ?_
        unfold pHold
        simp only [Bool.and_eq_true] at q ⊢
        exact ⟨q.1, q.2.1⟩
      rw [e]
      exact hold_fold key t l f p h
theorem holding_top {vs : List Row} {key t : Nat} {y : Row} (h : holding vs key t = some y) : Top (vs.filter (pHold key t)) y := by
  have q := hold_fold key t vs none [] rfl
  unfold holding at h
  rw [h] at q
  simpa using q
theorem holding_none {vs : List Row} {key t : Nat} (h : holding vs key t = none) : vs.filter (pHold key t) = [] := by
  have q := hold_fold key t vs none [] rfl
  unfold holding at h
  rw [h] at q
  simpa using q

/-! ### 3. The end of a version, pruning -/
theorem foldl_min : ∀ (l : List Nat) (a : Nat), (∀ t, l.foldl min a ≤ t ↔ a ≤ t ∨ ∃ x ∈ l, x ≤ t)
  | [], a, t => by simp
  | x :: l, a, t => by
    rw [List.foldl_cons, foldl_min l (min a x) t]
    constructor
    · rintro (h | ⟨y, hy, h⟩)
      · by_cases q : a ≤ t
        · exact .inl q
        · exact .inr ⟨x, List.mem_cons_self, by omega⟩
      · exact .inr ⟨y, List.mem_cons_of_mem _ hy, h⟩
    · rintro (h | ⟨y, hy, h⟩)
      · exact .inl (by omega)
      · rcases List.mem_cons.mp hy with rfl | hy
        · exact .inl (by omega)
        · exact .inr ⟨y, hy, h⟩
theorem end_fold (v : Row) : ∀ (l : List Row) (a : Nat), l.foldl (end1 v) a = ((l.filter fun x => x.key == v.key && newer x v).map fun x => x.t).foldl min a
  | [], _ => rfl
  | x :: l, a => by
    rw [List.foldl_cons, end_fold v l]
    unfold end1
    by_cases c : (x.key == v.key && newer x v) = true
    · rw [if_pos c, List.filter_cons_of_pos (by exact c)]
      rfl
    · rw [if_neg c, List.filter_cons_of_neg (by exact c)]
theorem endOf_eq (vs : List Row) (v : Row) : endOf vs v = nextTime vs v := end_fold v vs 1000001
theorem endOf_le {vs : List Row} {v : Row} {t : Nat} : endOf vs v ≤ t ↔ 1000001 ≤ t ∨ ∃ x ∈ vs, x.key = v.key ∧ lt2 v x ∧ x.t ≤ t := by
  rw [endOf_eq]
  unfold nextTime
  rw [foldl_min]
  show 1000000 + 1 ≤ t ∨ _ ↔ _
  refine or_congr (by omega) ?_
  constructor
  · rintro ⟨x, hx, ht⟩
    obtain ⟨y, hy, rfl⟩ := List.mem_map.mp hx
    obtain ⟨h1, h2⟩ := List.mem_filter.mp hy
    simp only [Bool.and_eq_true, beq_iff_eq] at h2
    exact ⟨y, h1, h2.1, newer_iff.mp h2.2, ht⟩
  · rintro ⟨x, hx, hk, hn, ht⟩
    refine ⟨x.t, List.mem_map.mpr ⟨x, List.mem_filter.mpr ⟨hx, ?_⟩, rfl⟩, ht⟩
    simp only [Bool.and_eq_true, beq_iff_eq]
    exact ⟨hk, newer_iff.mpr hn⟩
theorem keptV_iff {vs ls : List Row} {k : Nat} {v : Row} : keptV vs ls k v = true ↔ (∃ l ∈ ls, l.key = v.key ∧ v.t ≤ l.t ∧ l.t < endOf vs v) ∨ max v.t k < endOf vs v := by
  unfold keptV asked
  simp only [Bool.or_eq_true, List.any_eq_true, Bool.and_eq_true, decide_eq_true_eq, beq_iff_eq]
/-- a moment at which somebody may ask for the key -/
def Rlv (ls : List Row) (k : Nat) (key t : Nat) : Prop := k ≤ t ∨ ∃ l ∈ ls, l.key = key ∧ l.t = t
/-- the newest version at such a moment is kept -/
theorem top_kept {vs ls : List Row} {k key t : Nat} {y : Row} (h : Top (vs.filter (pHold key t)) y) (hr : Rlv ls k key t) (ht : t ≤ 1000000) : y ∈ vs ∧ y.key = key ∧ y.t ≤ t ∧ keptV vs ls k y = true := by
  obtain ⟨h1, h2⟩ := h
  obtain ⟨h3, h4⟩ := List.mem_filter.mp h1
  unfold pHold at h4
  simp only [Bool.and_eq_true, beq_iff_eq, decide_eq_true_eq] at h4
  refine ⟨h3, h4.1, h4.2, keptV_iff.mpr ?_⟩
  have e : t < endOf vs y := by
    refine Nat.lt_of_not_le fun q => ?_
    rcases endOf_le.mp q with q | ⟨x, hx, hk, hl, hxt⟩
    · omega
    · refine h2 x (List.mem_filter.mpr ⟨hx, ?_⟩) hl
      unfold pHold
      simp only [Bool.and_eq_true, beq_iff_eq, decide_eq_true_eq]
      exact ⟨hk.trans h4.1, hxt⟩
  rcases hr with hr | ⟨l, hl, hlk, rfl⟩
  · exact .inr (by omega)
  · exact .inl ⟨l, hl, hlk.trans h4.1.symm, h4.2, e⟩
theorem end_mono {vs ps : List Row} {v : Row} (h : ∀ x ∈ ps, x ∈ vs) : endOf vs v ≤ endOf ps v := by
  refine endOf_le.mpr ?_
  rcases endOf_le.mp (Nat.le_refl (endOf ps v)) with q | ⟨x, hx, r⟩
  · exact .inl q
  · exact .inr ⟨x, h x hx, r⟩
/-- the kept ones by themselves tell who is kept -/
theorem prune_same {vs ls : List Row} {k : Nat} {q : Row → Bool} (hq : ∀ v ∈ vs, keptV vs ls k v = true → q v = true) :
    (vs.filter q).filter (keptV (vs.filter q) ls k) = vs.filter (keptV vs ls k) := by
  rw [List.filter_filter]
  refine List.filter_congr fun v hv => ?_
  have sub : ∀ x ∈ vs.filter q, x ∈ vs := fun x hx => (List.mem_filter.mp hx).1
  -- at a moment that is asked for
  have main : ∀ t, v.t ≤ t → Rlv ls k v.key t → t < endOf (vs.filter q) v → t < endOf vs v := fun t h1 h2 h3 => by
    refine Nat.lt_of_not_le fun h4 => ?_
    rcases endOf_le.mp h4 with h4 | ⟨x, hx, hk, hl, hxt⟩
    · exact absurd (endOf_le.mpr (.inl h4)) (Nat.not_le_of_lt h3)
    · have ht : t ≤ 1000000 := by
        refine Nat.le_of_not_lt fun z => ?_
        exact absurd (endOf_le.mpr (.inl z)) (Nat.not_le_of_lt h3)
      have hxm : x ∈ vs.filter (pHold v.key t) := by
        refine List.mem_filter.mpr ⟨hx, ?_⟩
        unfold pHold
        simp only [Bool.and_eq_true, beq_iff_eq, decide_eq_true_eq]
        exact ⟨hk, hxt⟩
      obtain ⟨y, hy⟩ := newest_some (l := vs.filter (pHold v.key t)) (fun z => by rw [z] at hxm; cases hxm)
      have T := newest_top hy
      obtain ⟨y1, y2, y3, y4⟩ := top_kept T h2 ht
      have yx := T.2 x hxm
      refine absurd (endOf_le.mpr (.inr ⟨y, List.mem_filter.mpr ⟨y1, hq y y1 y4⟩, y2, ?_, y3⟩)) (Nat.not_le_of_lt h3)
      unfold lt2 at *
      omega
  have e : keptV (vs.filter q) ls k v = true ↔ keptV vs ls k v = true := by
    rw [keptV_iff, keptV_iff]
    constructor
    · rintro (⟨l, hl, h1, h2, h3⟩ | h)
      · exact .inl ⟨l, hl, h1, h2, main l.t h2 (.inr ⟨l, hl, h1, rfl⟩) h3⟩
      · exact .inr (main _ (by omega) (.inl (by omega)) h)
    · rintro (⟨l, hl, h1, h2, h3⟩ | h)
      · exact .inl ⟨l, hl, h1, h2, Nat.lt_of_lt_of_le h3 (end_mono sub)⟩
      · exact .inr (Nat.lt_of_lt_of_le h (end_mono sub))
  cases c : keptV vs ls k v with
  | true => rw [e.mpr c, hq v hv c] <;> rfl
  | false =>
    cases c2 : keptV (vs.filter q) ls k v with
    | true => rw [e.mp c2] at c; cases c
    | false => simp
/-- who is kept later was kept before -/
theorem kept_mono {vs vs' ls ls' : List Row} {k k' : Nat} (hv : ∀ x ∈ vs, x ∈ vs') (hk : k ≤ k') (hl : ∀ l ∈ ls', l ∈ ls ∨ k ≤ l.t) {v : Row} (h : keptV vs' ls' k' v = true) : keptV vs ls k v = true := by
  have m := end_mono (v := v) hv
  rcases keptV_iff.mp h with ⟨l, h1, h2, h3, h4⟩ | h
  · rcases hl l h1 with z | z
    · exact keptV_iff.mpr (.inl ⟨l, z, h2, h3, by omega⟩)
    · exact keptV_iff.mpr (.inr (by omega))
  · exact keptV_iff.mpr (.inr (by omega))
theorem asOf_kept {vs ls : List Row} {k key t : Nat} (hid : vs.Pairwise fun a b => a.id < b.id) (hr : Rlv ls k key t) (ht : t ≤ 1000000) : asOf (vs.filter (keptV vs ls k)) key t = holding vs key t := by
  show newest ((vs.filter (keptV vs ls k)).filter (pHold key t)) = _
  have e : (vs.filter (keptV vs ls k)).filter (pHold key t) = (vs.filter (pHold key t)).filter (keptV vs ls k) := by
    rw [List.filter_filter, List.filter_filter]
    exact List.filter_congr fun v _ => Bool.and_comm _ _
  rw [e]
  cases h : holding vs key t with
  | none => rw [holding_none h]; rfl
  | some y =>
    have T := holding_top h
    obtain ⟨y1, y2, y3, y4⟩ := top_kept T hr ht
    have ym : y ∈ (vs.filter (pHold key t)).filter (keptV vs ls k) := List.mem_filter.mpr ⟨T.1, y4⟩
    obtain ⟨z, hz⟩ := newest_some (l := (vs.filter (pHold key t)).filter (keptV vs ls k)) (fun q => by rw [q] at ym; cases ym)
    have Z := newest_top hz
    have zm := (List.mem_filter.mp Z.1).1
    have a := T.2 z zm
    have b := Z.2 y ym
    have ids : z.id = y.id := by
      unfold lt2 at *
      omega
    rw [hz]
    have zv := (List.mem_filter.mp zm).1
    refine congrArg some ?_
    obtain ⟨i, hi, ei⟩ := List.getElem_of_mem zv
    obtain ⟨j, hj, ej⟩ := List.getElem_of_mem y1
    rcases Nat.lt_trichotomy i j with c | c | c
    · have q := List.pairwise_iff_getElem.mp hid i j hi hj c
      rw [ei, ej] at q; omega
    · subst c
      exact ei.symm.trans ej
    · have q := List.pairwise_iff_getElem.mp hid j i hj hi c
      rw [ei, ej] at q; omega
theorem wanted_eq (s : St) (v : Row) : versionWanted s v = keptV s.rights s.lefts s.markL v := by
  unfold versionWanted keptV asked
  rw [endOf_eq, Bool.or_comm]

/-! ### 4. The sort -/
theorem insert_perm (x : Row) : ∀ l : List Row, (insertRow x l).Perm (x :: l)
  | [] => List.Perm.refl _
  | y :: r => by
    unfold insertRow
    split
    · exact List.Perm.refl _
    · exact ((insert_perm x r).cons y).trans (List.Perm.swap x y r)
theorem sort_perm : ∀ l : List Row, (l.foldr insertRow []).Perm l
  | [] => List.Perm.refl _
  | x :: l => by
    rw [List.foldr_cons]
    exact (insert_perm x _).trans ((sort_perm l).cons x)
theorem leR_iff {a b : Row} : leR a b = true ↔ a.t < b.t ∨ (a.t = b.t ∧ a.id ≤ b.id) := by
  unfold leR
  rw [decide_eq_true_eq]
  omega
theorem insert_sorted (x : Row) : ∀ l : List Row, l.Pairwise (fun a b => leR a b = true) → (insertRow x l).Pairwise (fun a b => leR a b = true)
  | [], _ => List.pairwise_singleton _ _
  | y :: r, h => by
    unfold insertRow
    split
    · rename_i c
      refine List.pairwise_cons.mpr ⟨fun z hz => ?_, h⟩
      rcases List.mem_cons.mp hz with rfl | hz
      · exact leR_iff.mpr (by omega)
      · have q := leR_iff.mp ((List.pairwise_cons.mp h).1 z hz)
        exact leR_iff.mpr (by omega)
    · rename_i c
      refine List.pairwise_cons.mpr ⟨fun z hz => ?_, insert_sorted x r (List.pairwise_cons.mp h).2⟩
      rcases List.mem_cons.mp ((insert_perm x r).mem_iff.mp hz) with rfl | hz
      · exact leR_iff.mpr (by omega)
      · exact (List.pairwise_cons.mp h).1 z hz
theorem sort_sorted : ∀ l : List Row, (l.foldr insertRow []).Pairwise (fun a b => leR a b = true)
  | [] => List.Pairwise.nil
  | x :: l => by
    rw [List.foldr_cons]
    exact insert_sorted x _ (sort_sorted l)
theorem id_inj {l : List Row} (h : l.Pairwise fun a b => a.id < b.id) {a b : Row} (ha : a ∈ l) (hb : b ∈ l) (e : a.id = b.id) : a = b := by
  obtain ⟨i, hi, ei⟩ := List.getElem_of_mem ha
  obtain ⟨j, hj, ej⟩ := List.getElem_of_mem hb
  rcases Nat.lt_trichotomy i j with c | c | c
  · have q := List.pairwise_iff_getElem.mp h i j hi hj c
    rw [ei, ej] at q; omega
  · subst c
    exact ei.symm.trans ej
  · have q := List.pairwise_iff_getElem.mp h j i hj hi c
    rw [ei, ej] at q; omega
theorem sort_is {l : List Row} (h : l.Pairwise fun a b => a.id < b.id) : l.foldr insertRow [] = l.mergeSort leR := by
  refine List.Perm.eq_of_pairwise (le := fun a b => leR a b = true) (fun a b ha hb h1 h2 => ?_) (sort_sorted l) (List.pairwise_mergeSort (fun a b c h1 h2 => ?_) (fun a b => ?_) l) ((sort_perm l).trans (List.mergeSort_perm l leR).symm)
  · have a1 := (sort_perm l).mem_iff.mp ha
    have b1 := (List.mergeSort_perm l leR).mem_iff.mp hb
    have q1 := leR_iff.mp h1
    have q2 := leR_iff.mp h2
    exact id_inj h a1 b1 (by omega)
  · have q1 := leR_iff.mp h1
    have q2 := leR_iff.mp h2
    exact leR_iff.mpr (by omega)
  · rw [Bool.or_eq_true, leR_iff, leR_iff]
    omega
end JM

namespace JM
open Hs06
/-! ### 5. The mirror is the specification, call by call -/
/-- the specification's state -/
def M.st (m : M) : St := ⟨m.kind, m.ahead, m.after, m.eager, m.mark false, m.mark true, m.kept false, if m.kind = 3 then m.vers.filter (keptV m.vers (m.kept false) (m.mark false)) else m.kept true,
  m.taken false, m.taken true, m.aside⟩
structure Ok (m : M) : Prop where
  kind : m.kind ≤ 3
  noR : m.kind = 3 → m.kept true = []
  vid : m.kind = 3 → m.vers.Pairwise fun a b => a.id < b.id
  vtk : m.kind = 3 → ∀ v ∈ m.vers, v.id ≤ m.taken true
  lid : m.kind = 3 → (m.kept false).Pairwise fun a b => a.id < b.id
  ltk : m.kind = 3 → ∀ l ∈ m.kept false, l.id ≤ m.taken false
  ltm : m.kind = 3 → ∀ l ∈ m.kept false, l.t ≤ 1000000
theorem new_ok {k a b : Nat} {e : Bool} (h : k ≤ 3) : Ok (new k a b e) :=
  ⟨h, fun _ => rfl, fun _ => List.Pairwise.nil, fun _ _ z => absurd z List.not_mem_nil, fun _ => List.Pairwise.nil, fun _ _ z => absurd z List.not_mem_nil, fun _ _ z => absurd z List.not_mem_nil⟩
theorem flat_filter {α β : Type} (p : α → Bool) (f : α → List β) : ∀ l : List α, (l.filter p).flatMap f = l.flatMap fun x => if p x = true then f x else []
  | [] => rfl
  | x :: l => by
    by_cases c : p x = true
    · rw [List.filter_cons_of_pos c, List.flatMap_cons, List.flatMap_cons, if_pos c, flat_filter p f l]
    · rw [List.filter_cons_of_neg c, List.flatMap_cons, if_neg c, flat_filter p f l]
      rfl
theorem filter_empty {α : Type} (p : α → Bool) : ∀ l : List α, (l.filter p).isEmpty = !l.any p
  | [] => rfl
  | x :: l => by
    by_cases c : p x = true
    · rw [List.filter_cons_of_pos c, List.any_cons, c] <;> rfl
    · rw [List.filter_cons_of_neg c, List.any_cons, filter_empty p l]
      simp [c]
theorem if_list {α : Type} {a : Bool} {P : Prop} [Decidable P] {x : List α} (h : a = true ↔ P) : (if a = true then x else []) = if P then x else [] := by
  by_cases c : P
  · rw [if_pos c, if_pos (h.mpr c)]
  · rw [if_neg c, if_neg fun q => c (h.mp q)]
theorem meet_l (m : M) (l r : Row) : Hs06.meets m.st l r = m.meet false l r := by
  unfold Hs06.meets M.meet
  rfl
theorem meet_r (m : M) (l r : Row) : Hs06.meets m.st l r = m.meet true r l := by
  unfold Hs06.meets M.meet
  rw [if_pos rfl]
  have e : (l.key == r.key) = (r.key == l.key) := by
    rw [Bool.eq_iff_iff, beq_iff_eq, beq_iff_eq]
    exact eq_comm
  rw [e]
  rfl
theorem want_l (m : M) (l : Row) : Hs06.leftWanted m.st l = m.want false l (m.mark true) := by
  unfold Hs06.leftWanted M.want
  rw [Bool.eq_iff_iff, Bool.and_eq_true, decide_eq_true_eq, decide_eq_true_eq, decide_eq_true_eq]
  show m.mark true ≤ min (l.t + m.after) 1000000 ↔ m.mark true ≤ 1000000 ∧ m.mark true ≤ l.t + m.after
  omega
theorem want_r (m : M) (r : Row) : Hs06.rightWanted m.st r = m.want true r (m.mark false) := by
  unfold Hs06.rightWanted M.want
  rw [Bool.eq_iff_iff, Bool.and_eq_true, decide_eq_true_eq, decide_eq_true_eq, decide_eq_true_eq]
  show m.mark false ≤ min (r.t + m.ahead) 1000000 ↔ m.mark false ≤ 1000000 ∧ m.mark false ≤ r.t + m.ahead
  omega
theorem touch_eq (p : Row → Bool) (x : Row) : touchRow p x = touch (p x) x := rfl
theorem st_eq {a b : St} (h1 : a.sort = b.sort) (h2 : a.ahead = b.ahead) (h3 : a.after = b.after) (h4 : a.eager = b.eager) (h5 : a.markL = b.markL) (h6 : a.markR = b.markR) (h7 : a.lefts = b.lefts) (h8 : a.rights = b.rights)
    (h9 : a.countL = b.countL) (h10 : a.countR = b.countR) (h11 : a.aside = b.aside) : a = b := by
  cases a
  cases b
  subst h1 h2 h3 h4 h5 h6 h7 h8 h9 h10 h11
  rfl
theorem left_comes (m : M) (h : m.kind ≠ 3) (key t : Nat) :
    leftComes m.st key t = (((m.took false).enter false ⟨m.taken false + 1, key, t, false⟩).1.st, ((m.took false).enter false ⟨m.taken false + 1, key, t, false⟩).2) := by
  have hk : (m.took false).kind ≠ 3 := h
  unfold M.enter
  rw [if_neg hk]
  unfold leftComes
  have hr : m.st.rights = m.kept true := if_neg h
  have e1 : ∀ r, Hs06.meets m.st ⟨m.st.countL + 1, key, t, false⟩ r = m.meet false ⟨m.taken false + 1, key, t, false⟩ r := fun r => meet_l m _ r
  dsimp only
  rw [hr]
  simp only [e1]
  refine Prod.ext (st_eq rfl rfl rfl rfl rfl rfl ?_ ?_ ?_ ?_ rfl) ?_
  · have w : Hs06.leftWanted m.st ⟨m.taken false + 1, key, t, false⟩ = m.want false ⟨m.taken false + 1, key, t, false⟩ (m.mark true) := want_l m _
    have any : (!(List.filter (fun r => m.meet false ⟨m.taken false + 1, key, t, false⟩ r) (m.kept true)).isEmpty) = (m.took false).metAny false ⟨m.taken false + 1, key, t, false⟩ := by
      rw [filter_empty, Bool.not_not]
      rfl
    have tch : ∀ r : Row, touch ((m.took false).metAny false r) r = { r with met := ((m.took false).metAny false r) || r.met } := fun r => by
      unfold touch
      cases (m.took false).metAny false r <;> rfl
    show (if Hs06.leftWanted m.st ⟨m.taken false + 1, key, t, false⟩ = true then m.kept false ++ [_] else m.kept false) = (m.took false).keptMeet false ⟨m.taken false + 1, key, t, false⟩ false
    unfold M.keptMeet
    rw [up_same, tch, w]
    show _ = (if m.want false ⟨m.taken false + 1, key, t, false⟩ (m.mark true) = true then m.kept false ++ [_] else m.kept false)
    rw [← any, Bool.or_false]
    rfl
  · show List.map _ (m.kept true) = (if m.kind = 3 then _ else (m.took false).keptMeet false ⟨m.taken false + 1, key, t, false⟩ true)
    rw [if_neg h]
    unfold M.keptMeet
    rw [up_ne (by decide : true ≠ false), show (!false) = true from rfl, up_same]
    rfl
  · exact (up_same (f := m.taken) (s := false)).symm
  · exact (up_ne (f := m.taken) (v := m.taken false + 1) (by decide : true ≠ false)).symm
  · dsimp only
    unfold M.chMeet M.metAll
    refine congr (congrArg HAppend.hAppend ?_) ?_
    · rw [flat_filter]
      show _ = (m.kept true).flatMap _
      refine congrArg (fun f => List.flatMap f (m.kept true)) (funext fun r => ?_)
      unfold M.chOne
      show _ = (if m.meet false _ r = true then _ else _)
      by_cases c : m.meet false ⟨m.taken false + 1, key, t, false⟩ r = true
      · rw [if_pos c, if_pos c]
        refine congr (congrArg HAppend.hAppend ?_) rfl
        refine (if_list ?_).symm
        show (!r.met && (m.eager && (m.kind == 2))) = true ↔ ((m.kind == 2) = true ∧ m.eager = true ∧ r.met = false)
        cases r.met <;> cases m.eager <;> simp
      · rw [if_neg c, if_neg c]
    · refine (if_list ?_).symm
      rw [filter_empty]
      have w : Hs06.leftWanted m.st ⟨m.taken false + 1, key, t, false⟩ = m.want false ⟨m.taken false + 1, key, t, false⟩ (m.mark true) := want_l m _
      show (!((m.kept true).any (m.meet false ⟨m.taken false + 1, key, t, false⟩)) && ((m.eager && (m.kind == 1 || m.kind == 2)) || ((!m.eager && (m.kind == 1 || m.kind == 2)) && !(m.want false ⟨m.taken false + 1, key, t, false⟩ (m.mark true))))) = true ↔
        ((!((m.kept true).any fun r => m.meet false ⟨m.taken false + 1, key, t, false⟩ r)) = true ∧ (m.kind == 1 || m.kind == 2) = true ∧ (m.eager = true ∨ Hs06.leftWanted m.st ⟨m.taken false + 1, key, t, false⟩ = false))
      rw [w]
      cases (m.kept true).any (m.meet false ⟨m.taken false + 1, key, t, false⟩) <;> cases m.eager <;> cases (m.kind == 1 || m.kind == 2) <;> cases m.want false ⟨m.taken false + 1, key, t, false⟩ (m.mark true) <;> simp
theorem right_comes (m : M) (h : m.kind ≠ 3) (key t : Nat) :
    rightComes m.st key t = (((m.took true).enter true ⟨m.taken true + 1, key, t, false⟩).1.st, ((m.took true).enter true ⟨m.taken true + 1, key, t, false⟩).2) := by
  have hk : (m.took true).kind ≠ 3 := h
  unfold M.enter
  rw [if_neg hk]
  unfold rightComes
  have hr : m.st.rights = m.kept true := if_neg h
  have e1 : ∀ r, Hs06.meets m.st r ⟨m.st.countR + 1, key, t, false⟩ = m.meet true ⟨m.taken true + 1, key, t, false⟩ r := fun r => meet_r m r _
  dsimp only
  rw [hr]
  simp only [e1]
  have w : Hs06.rightWanted m.st ⟨m.taken true + 1, key, t, false⟩ = m.want true ⟨m.taken true + 1, key, t, false⟩ (m.mark false) := want_r m _
  refine Prod.ext (st_eq rfl rfl rfl rfl rfl rfl ?_ ?_ ?_ ?_ rfl) ?_
  · show List.map _ (m.kept false) = (m.took true).keptMeet true ⟨m.taken true + 1, key, t, false⟩ false
    unfold M.keptMeet
    rw [up_ne (by decide : false ≠ true), show (!true) = false from rfl, up_same]
    rfl
  · have any : (!(List.filter (fun r => m.meet true ⟨m.taken true + 1, key, t, false⟩ r) (m.kept false)).isEmpty) = (m.took true).metAny true ⟨m.taken true + 1, key, t, false⟩ := by
      rw [filter_empty, Bool.not_not]
      rfl
    have tch : ∀ r : Row, touch ((m.took true).metAny true r) r = { r with met := ((m.took true).metAny true r) || r.met } := fun r => by
      unfold touch
      cases (m.took true).metAny true r <;> rfl
    show (if Hs06.rightWanted m.st ⟨m.taken true + 1, key, t, false⟩ = true then m.kept true ++ [_] else m.kept true) = (if m.kind = 3 then _ else (m.took true).keptMeet true ⟨m.taken true + 1, key, t, false⟩ true)
    rw [if_neg h]
    unfold M.keptMeet
    rw [up_same, tch, w]
    show _ = (if m.want true ⟨m.taken true + 1, key, t, false⟩ (m.mark false) = true then m.kept true ++ [_] else m.kept true)
    rw [← any, Bool.or_false]
    rfl
  · exact (up_ne (f := m.taken) (v := m.taken true + 1) (by decide : false ≠ true)).symm
  · exact (up_same (f := m.taken) (s := true)).symm
  · dsimp only
    unfold M.chMeet M.metAll
    refine congr (congrArg HAppend.hAppend ?_) ?_
    · rw [flat_filter]
      show _ = (m.kept false).flatMap _
      refine congrArg (fun f => List.flatMap f (m.kept false)) (funext fun r => ?_)
      unfold M.chOne
      show _ = (if m.meet true _ r = true then _ else _)
      by_cases c : m.meet true ⟨m.taken true + 1, key, t, false⟩ r = true
      · rw [if_pos c, if_pos c]
        refine congr (congrArg HAppend.hAppend ?_) rfl
        refine (if_list ?_).symm
        show (!r.met && (m.eager && (m.kind == 1 || m.kind == 2))) = true ↔ ((m.kind == 1 || m.kind == 2) = true ∧ m.eager = true ∧ r.met = false)
        cases r.met <;> cases m.eager <;> simp
      · rw [if_neg c, if_neg c]
    · refine (if_list ?_).symm
      rw [filter_empty]
      show (!((m.kept false).any (m.meet true ⟨m.taken true + 1, key, t, false⟩)) && ((m.eager && (m.kind == 2)) || ((!m.eager && (m.kind == 2)) && !(m.want true ⟨m.taken true + 1, key, t, false⟩ (m.mark false))))) = true ↔
        ((!((m.kept false).any fun r => m.meet true ⟨m.taken true + 1, key, t, false⟩ r)) = true ∧ (m.kind == 2) = true ∧ (m.eager = true ∨ Hs06.rightWanted m.st ⟨m.taken true + 1, key, t, false⟩ = false))
      rw [w]
      cases (m.kept false).any (m.meet true ⟨m.taken true + 1, key, t, false⟩) <;> cases m.eager <;> cases (m.kind == 2) <;> cases m.want true ⟨m.taken true + 1, key, t, false⟩ (m.mark false) <;> simp
/-- sort 3: the versions that are kept -/
theorem st3 {m : M} (h : m.kind = 3) : m.st.rights = m.vers.filter (keptV m.vers (m.kept false) (m.mark false)) := if_pos h
theorem pruned_st {s : St} : pruned s = { s with rights := s.rights.filter (keptV s.rights s.lefts s.markL) } := by
  unfold pruned
  refine congrArg (fun r => { s with rights := r }) (List.filter_congr fun v _ => wanted_eq s v)
theorem answered_eq {m : M} (h : m.kind = 3) (O : Ok m) {l : Row} (hl : Rlv (m.kept false) (m.mark false) l.key l.t) (ht : l.t ≤ 1000000) : answered m.st l = m.toldAt l := by
  unfold answered M.toldAt
  rw [st3 h, asOf_kept (O.vid h) hl ht]
  cases holding m.vers l.key l.t <;> rfl
theorem left_asks {m : M} (h : m.kind = 3) (O : Ok m) {key t : Nat} (ht : t ≤ 1000000) (hm : m.mark false ≤ t) :
    leftAsks m.st key t = (((m.took false).enter false ⟨m.taken false + 1, key, t, false⟩).1.st, ((m.took false).enter false ⟨m.taken false + 1, key, t, false⟩).2) := by
  have hk : (m.took false).kind = 3 := h
  unfold M.enter M.moment
  rw [if_pos hk, if_neg (by decide : ¬ false = true)]
  unfold leftAsks
  dsimp only
  by_cases c : t < m.mark true
  · rw [if_pos (show t < m.st.markR from c), if_pos (show t < (m.took false).mark true from c)]
    refine Prod.ext (st_eq rfl rfl rfl rfl rfl rfl rfl rfl ?_ ?_ rfl) ?_
    · exact (up_same (f := m.taken) (s := false)).symm
    · exact (up_ne (f := m.taken) (v := m.taken false + 1) (by decide : true ≠ false)).symm
    · exact congrArg (fun x => [x]) (answered_eq (l := ⟨m.taken false + 1, key, t, false⟩) h O (.inl hm) ht)
  · rw [if_neg (show ¬ t < m.st.markR from c), if_neg (show ¬ t < (m.took false).mark true from c)]
    refine Prod.ext (st_eq rfl rfl rfl rfl rfl rfl ?_ ?_ ?_ ?_ rfl) rfl
    · show m.kept false ++ [_] = up (m.took false).kept false ((m.took false).kept false ++ [_]) false
      rw [up_same]
      rfl
    · show m.st.rights = (if m.kind = 3 then List.filter (keptV m.vers (up m.kept false (m.kept false ++ [⟨m.taken false + 1, key, t, false⟩]) false) (m.mark false)) m.vers else _)
      rw [st3 h, if_pos h, up_same]
      refine List.filter_congr fun v _ => ?_
      have a : keptV m.vers (m.kept false ++ [⟨m.taken false + 1, key, t, false⟩]) (m.mark false) v = true → keptV m.vers (m.kept false) (m.mark false) v = true := fun q =>
        kept_mono (fun _ x => x) (Nat.le_refl _) (fun l hl => by
          rcases List.mem_append.mp hl with z | z
          · exact .inl z
          · have e : l = ⟨m.taken false + 1, key, t, false⟩ := by simpa using z
            subst e
            exact .inr hm) q
      have b : keptV m.vers (m.kept false) (m.mark false) v = true → keptV m.vers (m.kept false ++ [⟨m.taken false + 1, key, t, false⟩]) (m.mark false) v = true := fun q => by
        rcases keptV_iff.mp q with ⟨l, h1, h2⟩ | q
        · exact keptV_iff.mpr (.inl ⟨l, List.mem_append_left _ h1, h2⟩)
        · exact keptV_iff.mpr (.inr q)
      rw [Bool.eq_iff_iff]
      exact ⟨b, a⟩
    · exact (up_same (f := m.taken) (s := false)).symm
    · exact (up_ne (f := m.taken) (v := m.taken false + 1) (by decide : true ≠ false)).symm
theorem version_comes {m : M} (h : m.kind = 3) (O : Ok m) {key t : Nat} :
    versionComes m.st key t = ((m.took true).enter true ⟨m.taken true + 1, key, t, false⟩).1.st ∧ ((m.took true).enter true ⟨m.taken true + 1, key, t, false⟩).2 = [] := by
  have hk : (m.took true).kind = 3 := h
  unfold M.enter M.moment
  rw [if_pos hk, if_pos rfl]
  refine ⟨?_, rfl⟩
  unfold versionComes
  rw [pruned_st]
  refine st_eq rfl rfl rfl rfl rfl rfl rfl ?_ ?_ ?_ rfl
  · show List.filter (keptV (m.st.rights ++ [⟨m.taken true + 1, key, t, false⟩]) (m.kept false) (m.mark false)) (m.st.rights ++ [⟨m.taken true + 1, key, t, false⟩]) =
      (if m.kind = 3 then List.filter (keptV (m.vers ++ [⟨m.taken true + 1, key, t, false⟩]) (m.kept false) (m.mark false)) (m.vers ++ [⟨m.taken true + 1, key, t, false⟩]) else _)
    rw [if_pos h, st3 h]
    have e : m.vers.filter (keptV m.vers (m.kept false) (m.mark false)) ++ [⟨m.taken true + 1, key, t, false⟩] =
        (m.vers ++ [(⟨m.taken true + 1, key, t, false⟩ : Row)]).filter (fun (v : Row) => keptV m.vers (m.kept false) (m.mark false) v || v.id == m.taken true + 1) := by
      rw [List.filter_append]
      refine congr (congrArg HAppend.hAppend (List.filter_congr fun v hv => ?_)) ?_
      · have := O.vtk h v hv
        have e : (v.id == m.taken true + 1) = false := beq_eq_false_iff_ne.mpr (by omega)
        rw [e, Bool.or_false]
      · rw [List.filter_cons_of_pos (by simp)]
        rfl
    rw [e]
    refine prune_same fun v hv q => ?_
    rcases List.mem_append.mp hv with z | z
    · rw [kept_mono (fun x hx => List.mem_append_left _ hx) (Nat.le_refl _) (fun l hl => .inl hl) q] <;> rfl
    · have e : v = ⟨m.taken true + 1, key, t, false⟩ := by simpa using z
      subst e
      simp
  · exact (up_ne (f := m.taken) (v := m.taken true + 1) (by decide : false ≠ true)).symm
  · exact (up_same (f := m.taken) (s := true)).symm
theorem mark_left3 {m : M} (h : m.kind = 3) {t : Nat} (ht : m.mark false ≤ t) : markAsks m.st t = (m.raise false t).1.st ∧ (m.raise false t).2 = [] := by
  unfold M.raise
  rw [if_pos h, if_neg (by decide : ¬ false = true)]
  refine ⟨?_, rfl⟩
  unfold markAsks
  rw [pruned_st]
  refine st_eq rfl rfl rfl rfl ?_ ?_ rfl ?_ rfl rfl rfl
  · exact (up_same (f := m.mark) (s := false)).symm
  · exact (up_ne (f := m.mark) (v := t) (by decide : true ≠ false)).symm
  · show List.filter (keptV m.st.rights (m.kept false) t) m.st.rights = (if m.kind = 3 then List.filter (keptV m.vers (m.kept false) (up m.mark false t false)) m.vers else _)
    rw [if_pos h, st3 h, up_same]
    exact prune_same fun v _ q => kept_mono (fun _ x => x) ht (fun l hl => .inl hl) q
theorem mark_right3 {m : M} (h : m.kind = 3) (O : Ok m) {t : Nat} : markVersions m.st t = ((m.raise true t).1.st, (m.raise true t).2) := by
  unfold M.raise
  rw [if_pos h, if_pos rfl]
  unfold markVersions M.endWait
  rw [pruned_st]
  have mk : (m.marked true t).mark true = t := up_same (f := m.mark) (s := true)
  have ml : (m.marked true t).mark false = m.mark false := up_ne (f := m.mark) (v := t) (by decide : false ≠ true)
  have kp : (m.marked true t).kept = m.kept := rfl
  rw [mk, kp]
  refine Prod.ext (st_eq rfl rfl rfl rfl ?_ ?_ ?_ ?_ rfl rfl rfl) ?_
  · exact ml.symm
  · exact mk.symm
  · exact (up_same (f := m.kept) (s := false)).symm
  · show List.filter (keptV m.st.rights (List.filter (fun l => decide (t ≤ l.t)) (m.kept false)) (m.mark false)) m.st.rights =
      (if m.kind = 3 then List.filter (keptV m.vers (up m.kept false (List.filter (fun l => decide (t ≤ l.t)) (m.kept false)) false) ((m.marked true t).mark false)) m.vers else _)
    rw [if_pos h, st3 h, up_same, ml]
    exact prune_same fun v _ q => kept_mono (fun _ x => x) (Nat.le_refl _) (fun l hl => .inl (List.mem_filter.mp hl).1) q
  · show List.map (answered m.st) (List.foldr insertRow [] (List.filter (fun l => decide (l.t < t)) (m.kept false))) = List.map (m.marked true t).toldAt (List.mergeSort (List.filter (fun r => decide (r.t < t)) (m.kept false)) leR)
    rw [sort_is ((O.lid h).filter _)]
    refine List.map_congr_left fun l hl => ?_
    have hl' : l ∈ m.kept false := (List.mem_filter.mp ((List.mergeSort_perm _ leR).mem_iff.mp hl)).1
    exact answered_eq h O (.inr ⟨l, hl', rfl, rfl⟩) (O.ltm h l hl')
theorem markLeft_eq (s : St) (t : Nat) : markLeft s t = (⟨s.sort, s.ahead, s.after, s.eager, t, s.markR, s.lefts, s.rights.filter (fun r => decide (t ≤ 1000000) && decide (t ≤ r.t + s.ahead)), s.countL, s.countR, s.aside⟩,
    if (!s.eager && rightAlone s) = true then ((s.rights.filter fun r => !(decide (t ≤ 1000000) && decide (t ≤ r.t + s.ahead))).filter fun r => !r.met).map (chAlone true true) else []) := by
  have w : ∀ r, rightWanted { s with markL := t } r = (decide (t ≤ 1000000) && decide (t ≤ r.t + s.ahead)) := fun r => by
    unfold Hs06.rightWanted
    rw [Bool.eq_iff_iff, Bool.and_eq_true, decide_eq_true_eq, decide_eq_true_eq, decide_eq_true_eq]
    show t ≤ min (r.t + s.ahead) 1000000 ↔ t ≤ 1000000 ∧ t ≤ r.t + s.ahead
    omega
  unfold markLeft
  simp only [w]
  refine Prod.ext (st_eq rfl rfl rfl rfl rfl rfl rfl ?_ rfl rfl rfl) ?_
  · exact List.filter_congr fun r _ => w r
  · rw [List.filter_filter]
    by_cases c : (!s.eager && rightAlone s) = true
    · rw [if_pos c]
      have e : chAlone true true = fun r => (true, 0, r.id) := rfl
      rw [e]
      refine congrArg (List.map _) (List.filter_congr fun r _ => ?_)
      have c' : (rightAlone s && !s.eager) = true := by rw [Bool.and_comm]; exact c
      rw [c', Bool.and_true, Bool.and_comm]
    · rw [if_neg c]
      refine List.map_eq_nil_iff.mpr (List.filter_eq_nil_iff.mpr fun r _ q => c ?_)
      simp only [Bool.and_eq_true] at q ⊢
      exact ⟨q.2.2.2, q.2.2.1⟩
theorem markRight_eq (s : St) (t : Nat) : markRight s t = (⟨s.sort, s.ahead, s.after, s.eager, s.markL, t, s.lefts.filter (fun r => decide (t ≤ 1000000) && decide (t ≤ r.t + s.after)), s.rights, s.countL, s.countR, s.aside⟩,
    if (!s.eager && leftAlone s) = true then ((s.lefts.filter fun r => !(decide (t ≤ 1000000) && decide (t ≤ r.t + s.after))).filter fun r => !r.met).map (chAlone true false) else []) := by
  have w : ∀ r, leftWanted { s with markR := t } r = (decide (t ≤ 1000000) && decide (t ≤ r.t + s.after)) := fun r => by
    unfold Hs06.leftWanted
    rw [Bool.eq_iff_iff, Bool.and_eq_true, decide_eq_true_eq, decide_eq_true_eq, decide_eq_true_eq]
    show t ≤ min (r.t + s.after) 1000000 ↔ t ≤ 1000000 ∧ t ≤ r.t + s.after
    omega
  unfold markRight
  simp only [w]
  refine Prod.ext (st_eq rfl rfl rfl rfl rfl rfl ?_ rfl rfl rfl rfl) ?_
  · exact List.filter_congr fun r _ => w r
  · rw [List.filter_filter]
    by_cases c : (!s.eager && leftAlone s) = true
    · rw [if_pos c]
      have e : chAlone true false = fun r => (true, r.id, 0) := rfl
      rw [e]
      refine congrArg (List.map _) (List.filter_congr fun r _ => ?_)
      have c' : (leftAlone s && !s.eager) = true := by rw [Bool.and_comm]; exact c
      rw [c', Bool.and_true, Bool.and_comm]
    · rw [if_neg c]
      refine List.map_eq_nil_iff.mpr (List.filter_eq_nil_iff.mpr fun r _ q => c ?_)
      simp only [Bool.and_eq_true] at q ⊢
      exact ⟨q.2.2.2, q.2.2.1⟩
theorem mark_leftM {m : M} (h : m.kind ≠ 3) {t : Nat} : markLeft m.st t = ((m.raise false t).1.st, (m.raise false t).2) := by
  rw [markLeft_eq]
  unfold M.raise
  rw [if_neg h]
  have hr : m.st.rights = m.kept true := if_neg h
  have mk : (m.marked false t).mark (!(!false)) = t := up_same (f := m.mark) (s := false)
  have mr : (m.marked false t).mark true = m.mark true := up_ne (f := m.mark) (v := t) (by decide : true ≠ false)
  unfold M.goOf
  rw [mk, hr]
  refine Prod.ext (st_eq rfl rfl rfl rfl ?_ ?_ ?_ ?_ rfl rfl rfl) rfl
  · exact mk.symm
  · exact mr.symm
  · exact (up_ne (f := m.kept) (v := (m.kept true).filter fun r => (m.marked false t).want true r t) (by decide : false ≠ true)).symm
  · show List.filter _ (m.kept true) = (if m.kind = 3 then _ else up m.kept true ((m.kept true).filter fun r => (m.marked false t).want true r t) true)
    rw [if_neg h, up_same]
    rfl
theorem mark_rightM {m : M} (h : m.kind ≠ 3) {t : Nat} : markRight m.st t = ((m.raise true t).1.st, (m.raise true t).2) := by
  rw [markRight_eq]
  unfold M.raise
  rw [if_neg h]
  have mk : (m.marked true t).mark (!(!true)) = t := up_same (f := m.mark) (s := true)
  have ml : (m.marked true t).mark false = m.mark false := up_ne (f := m.mark) (v := t) (by decide : false ≠ true)
  unfold M.goOf
  rw [mk]
  refine Prod.ext (st_eq rfl rfl rfl rfl ?_ ?_ ?_ ?_ rfl rfl rfl) rfl
  · exact ml.symm
  · exact mk.symm
  · exact (up_same (f := m.kept) (s := false)).symm
  · show m.st.rights = (if m.kind = 3 then _ else up m.kept false ((m.kept false).filter fun r => (m.marked true t).want false r t) true)
    rw [if_neg h, up_ne (by decide : true ≠ false)]
    exact if_neg h
end JM

namespace JM
open Hs06
/-! ### 6. What stays true of the mirror; the step -/
theorem come_ok {m : M} (O : Ok m) {s : Bool} {key t : Nat} (ht : t ≤ 1000000) : Ok (m.come s key t).1 := by
  unfold M.come
  split
  · exact ⟨O.kind, O.noR, O.vid, O.vtk, O.lid, O.ltk, O.ltm⟩
  · rename_i hm
    unfold M.enter M.moment
    have tk : ∀ b, m.taken b ≤ (m.took s).taken b := fun b => by
      by_cases c : b = s
      · subst c
        have e : (m.took b).taken b = m.taken b + 1 := up_same (f := m.taken) (s := b)
        omega
      · have e : (m.took s).taken b = m.taken b := up_ne (f := m.taken) (v := m.taken s + 1) c
        omega
    by_cases h : m.kind = 3
    · have hk : (m.took s).kind = 3 := h
      rw [if_pos hk]
      cases s with
      | true =>
        rw [if_pos rfl]
        have e : (m.took true).taken true = m.taken true + 1 := up_same (f := m.taken) (s := true)
        refine ⟨O.kind, O.noR, fun _ => ?_, fun _ v hv => ?_, O.lid, fun _ l hl => Nat.le_trans (O.ltk h l hl) (tk false), O.ltm⟩
        · refine List.pairwise_append.mpr ⟨O.vid h, List.pairwise_singleton _ _, fun a ha b hb => ?_⟩
          have q := O.vtk h a ha
          have eb : b = ⟨m.taken true + 1, key, t, false⟩ := by simpa using hb
          subst eb
          show a.id < m.taken true + 1
          omega
        · show v.id ≤ (m.took true).taken true
          rcases List.mem_append.mp hv with z | z
          · exact Nat.le_trans (O.vtk h v z) (tk true)
          · have eb : v = ⟨m.taken true + 1, key, t, false⟩ := by simpa using z
            subst eb
            rw [e]
            exact Nat.le_refl _
      | false =>
        rw [if_neg (by decide)]
        have e : (m.took false).taken false = m.taken false + 1 := up_same (f := m.taken) (s := false)
        split
        · exact ⟨O.kind, O.noR, O.vid, fun _ v hv => Nat.le_trans (O.vtk h v hv) (tk true), O.lid, fun _ l hl => Nat.le_trans (O.ltk h l hl) (tk false), O.ltm⟩
        · have kf : ∀ {P : List Row → Prop}, P (m.kept false ++ [⟨m.taken false + 1, key, t, false⟩]) → P (up (m.took false).kept false ((m.took false).kept false ++ [⟨m.taken false + 1, key, t, false⟩]) false) := fun {P} p => by
            rw [up_same]
            exact p
          refine ⟨O.kind, fun _ => ?_, O.vid, fun _ v hv => Nat.le_trans (O.vtk h v hv) (tk true), fun _ => ?_, fun _ => ?_, fun _ => ?_⟩
          · exact O.noR h
          · refine kf (P := fun l => l.Pairwise fun a b => a.id < b.id) ?_
            refine List.pairwise_append.mpr ⟨O.lid h, List.pairwise_singleton _ _, fun a ha b hb => ?_⟩
            have q := O.ltk h a ha
            have eb : b = ⟨m.taken false + 1, key, t, false⟩ := by simpa using hb
            subst eb
            show a.id < m.taken false + 1
            omega
          · refine kf (P := fun l => ∀ x ∈ l, x.id ≤ (m.took false).taken false) fun x hx => ?_
            rw [e]
            rcases List.mem_append.mp hx with z | z
            · have q := O.ltk h x z
              omega
            · have eb : x = ⟨m.taken false + 1, key, t, false⟩ := by simpa using z
              subst eb
              exact Nat.le_refl _
          · refine kf (P := fun l => ∀ x ∈ l, x.t ≤ 1000000) fun x hx => ?_
            rcases List.mem_append.mp hx with z | z
            · exact O.ltm h x z
            · have eb : x = ⟨m.taken false + 1, key, t, false⟩ := by simpa using z
              subst eb
              exact ht
    · have hk : ¬ (m.took s).kind = 3 := h
      rw [if_neg hk]
      exact ⟨O.kind, fun z => absurd z h, fun z => absurd z h, fun z => absurd z h, fun z => absurd z h, fun z => absurd z h, fun z => absurd z h⟩
theorem raise_ok {m : M} (O : Ok m) {s : Bool} {t : Nat} : Ok (m.raise s t).1 := by
  unfold M.raise
  by_cases h : m.kind = 3
  · rw [if_pos h]
    split
    · refine ⟨O.kind, fun _ => ?_, O.vid, O.vtk, fun _ => ?_, fun _ => ?_, fun _ => ?_⟩
      · exact O.noR h
      · show (up m.kept false _ false).Pairwise _
        rw [up_same]
        exact (O.lid h).filter _
      · show ∀ x ∈ up m.kept false _ false, _
        rw [up_same]
        exact fun x hx => O.ltk h x (List.mem_filter.mp hx).1
      · show ∀ x ∈ up m.kept false _ false, _
        rw [up_same]
        exact fun x hx => O.ltm h x (List.mem_filter.mp hx).1
    · exact ⟨O.kind, O.noR, O.vid, O.vtk, O.lid, O.ltk, O.ltm⟩
  · rw [if_neg h]
    exact ⟨O.kind, fun z => absurd z h, fun z => absurd z h, fun z => absurd z h, fun z => absurd z h, fun z => absurd z h, fun z => absurd z h⟩
theorem step_ok {m : M} (O : Ok m) (c : Call) : Ok (m.step c).1 := by
  unfold M.step
  cases e : m.exec c with
  | error n => exact O
  | ok r =>
    dsimp only
    cases c with
    | begin_ k a b e2 =>
      unfold M.exec at e
      dsimp only at e
      repeat' split at e
      all_goals cases e
      rename_i h _ _ _
      exact new_ok (by omega)
    | left k t =>
      unfold M.exec at e
      dsimp only at e
      split at e
      · cases e
      · cases e
        exact come_ok O (by omega)
    | right k t =>
      unfold M.exec at e
      dsimp only at e
      split at e
      · cases e
      · cases e
        exact come_ok O (by omega)
    | markL t =>
      unfold M.exec at e
      dsimp only at e
      repeat' split at e
      all_goals cases e
      exact raise_ok O
    | markR t =>
      unfold M.exec at e
      dsimp only at e
      repeat' split at e
      all_goals cases e
      exact raise_ok O
    | lefts => cases e; exact O
    | rights => cases e; exact O
    | counts => cases e; exact O
    | at_ k t =>
      unfold M.exec at e
      dsimp only at e
      repeat' split at e
      all_goals cases e
      all_goals exact O
theorem come_st {m : M} (O : Ok m) {key t : Nat} (ht : t ≤ 1000000) :
    (if t < m.st.markL then (({ m.st with aside := m.st.aside + 1 } : St), Hs06.ints [0, 0]) else ((does m.st (.left key t)).1, Hs06.ints ((m.st.countL + 1) :: changes (does m.st (.left key t)).2))) = ((m.come false key t).1.st, (m.come false key t).2) := by
  unfold M.come
  by_cases c : t < m.mark false
  · rw [if_pos (show t < m.st.markL from c), if_pos c]
    rfl
  · rw [if_neg (show ¬ t < m.st.markL from c), if_neg c]
    have d : does m.st (.left key t) = (((m.took false).enter false ⟨m.taken false + 1, key, t, false⟩).1.st, ((m.took false).enter false ⟨m.taken false + 1, key, t, false⟩).2) := by
      show (if m.kind = 3 then leftAsks m.st key t else leftComes m.st key t) = _
      by_cases h : m.kind = 3
      · rw [if_pos h, left_asks h O ht (by omega)]
      · rw [if_neg h, left_comes m h]
    rw [d]
    rfl
theorem come_stR {m : M} (O : Ok m) {key t : Nat} :
    (if t < m.st.markR then (({ m.st with aside := m.st.aside + 1 } : St), Hs06.ints [0, 0]) else ((does m.st (.right key t)).1, Hs06.ints ((m.st.countR + 1) :: changes (does m.st (.right key t)).2))) = ((m.come true key t).1.st, (m.come true key t).2) := by
  unfold M.come
  by_cases c : t < m.mark true
  · rw [if_pos (show t < m.st.markR from c), if_pos c]
    rfl
  · rw [if_neg (show ¬ t < m.st.markR from c), if_neg c]
    have d : does m.st (.right key t) = (((m.took true).enter true ⟨m.taken true + 1, key, t, false⟩).1.st, ((m.took true).enter true ⟨m.taken true + 1, key, t, false⟩).2) := by
      show (if m.kind = 3 then (versionComes m.st key t, []) else rightComes m.st key t) = _
      by_cases h : m.kind = 3
      · rw [if_pos h]
        obtain ⟨e1, e2⟩ := version_comes h O (key := key) (t := t)
        rw [e1, e2]
      · rw [if_neg h, right_comes m h]
    rw [d]
    rfl
theorem ex_begin (m : M) (k a b e : Nat) : m.step (.begin_ k a b e) = if 3 < k then (m, [-1]) else if 100000 < a ∨ 100000 < b then (m, [-2]) else if k = 3 ∧ ¬ (a = 0 ∧ b = 0) then (m, [-2]) else if 1 < e ∨ (e ≠ 0 ∧ (k = 0 ∨ k = 3)) then (m, [-3]) else (new k a b (e == 1), [0]) := by
  unfold M.step M.exec
  dsimp only
  by_cases h1 : 3 < k
  · rw [if_pos h1, if_pos h1]
  · rw [if_neg h1, if_neg h1]
    by_cases h2 : 100000 < a ∨ 100000 < b
    · rw [if_pos h2, if_pos h2]
    · rw [if_neg h2, if_neg h2]
      by_cases h3 : k = 3 ∧ ¬ (a = 0 ∧ b = 0)
      · rw [if_pos h3, if_pos h3]
      · rw [if_neg h3, if_neg h3]
        by_cases h4 : 1 < e ∨ (e ≠ 0 ∧ (k = 0 ∨ k = 3))
        · rw [if_pos h4, if_pos h4]
        · rw [if_neg h4, if_neg h4]
theorem ex_left (m : M) (k t : Nat) : m.step (.left k t) = if 1000000 < t then (m, [-2]) else m.come false k t := by
  unfold M.step M.exec
  dsimp only
  by_cases h : 1000000 < t
  · rw [if_pos h, if_pos h]
  · rw [if_neg h, if_neg h]
theorem ex_right (m : M) (k t : Nat) : m.step (.right k t) = if 1000000 < t then (m, [-2]) else m.come true k t := by
  unfold M.step M.exec
  dsimp only
  by_cases h : 1000000 < t
  · rw [if_pos h, if_pos h]
  · rw [if_neg h, if_neg h]
theorem ex_markL (m : M) (t : Nat) : m.step (.markL t) = if t < m.mark false then (m, [-2]) else if 1000001 < t then (m, [-3]) else ((m.raise false t).1, Hs06.ints (changes (m.raise false t).2)) := by
  unfold M.step M.exec
  dsimp only
  by_cases h : t < m.mark false
  · rw [if_pos h, if_pos h]
  · rw [if_neg h, if_neg h]
    by_cases h2 : 1000001 < t
    · rw [if_pos h2, if_pos h2]
    · rw [if_neg h2, if_neg h2]
theorem ex_markR (m : M) (t : Nat) : m.step (.markR t) = if t < m.mark true then (m, [-2]) else if 1000001 < t then (m, [-3]) else ((m.raise true t).1, Hs06.ints (changes (m.raise true t).2)) := by
  unfold M.step M.exec
  dsimp only
  by_cases h : t < m.mark true
  · rw [if_pos h, if_pos h]
  · rw [if_neg h, if_neg h]
    by_cases h2 : 1000001 < t
    · rw [if_pos h2, if_pos h2]
    · rw [if_neg h2, if_neg h2]
theorem ex_at (m : M) (k t : Nat) : m.step (.at_ k t) = (m, if m.kind ≠ 3 then [-4] else if 1000000 < t then [-2] else if t < m.mark false then [-5] else match holding m.vers k t with | none => [0] | some v => Hs06.ints [v.id, v.t]) := by
  unfold M.step M.exec
  dsimp only
  by_cases h : m.kind ≠ 3
  · rw [if_pos h, if_pos h]
  · rw [if_neg h, if_neg h]
    by_cases h2 : 1000000 < t
    · rw [if_pos h2, if_pos h2]
    · rw [if_neg h2, if_neg h2]
      by_cases h3 : t < m.mark false
      · rw [if_pos h3, if_pos h3]
      · rw [if_neg h3, if_neg h3]
/-- **one call: the mirror answers as the specification** -/
theorem step_st {m : M} (O : Ok m) (c : Call) : Hs06.step m.st c = ((m.step c).1.st, (m.step c).2) := by
  cases c with
  | begin_ k a b e =>
    rw [ex_begin]
    show (match beginBad k a b e with | some n => (m.st, [n]) | none => (fresh k a b (e == 1), [0])) = _
    unfold beginBad
    by_cases h1 : 3 < k
    · rw [if_pos h1, if_pos h1]
    · rw [if_neg h1, if_neg h1]
      by_cases h2 : 100000 < a ∨ 100000 < b
      · rw [if_pos h2, if_pos (by omega : 100000 < a ∨ 100000 < b ∨ (k = 3 ∧ (a ≠ 0 ∨ b ≠ 0)))]
      · rw [if_neg h2]
        by_cases h3 : k = 3 ∧ ¬ (a = 0 ∧ b = 0)
        · rw [if_pos h3, if_pos (by omega : 100000 < a ∨ 100000 < b ∨ (k = 3 ∧ (a ≠ 0 ∨ b ≠ 0)))]
        · rw [if_neg h3, if_neg (by omega : ¬ (100000 < a ∨ 100000 < b ∨ (k = 3 ∧ (a ≠ 0 ∨ b ≠ 0))))]
          by_cases h4 : 1 < e ∨ (e ≠ 0 ∧ (k = 0 ∨ k = 3))
          · rw [if_pos h4, if_pos (by omega : 1 < e ∨ ((k = 0 ∨ k = 3) ∧ e ≠ 0))]
          · rw [if_neg h4, if_neg (by omega : ¬ (1 < e ∨ ((k = 0 ∨ k = 3) ∧ e ≠ 0)))]
            refine Prod.ext (st_eq rfl rfl rfl rfl rfl rfl rfl ?_ rfl rfl rfl) rfl
            show [] = (if k = 3 then [] else [])
            split <;> rfl
  | left key t =>
    rw [ex_left]
    show (if 1000000 < t then (m.st, [-2]) else if t < m.st.markL then _ else _) = _
    by_cases h : 1000000 < t
    · rw [if_pos h, if_pos h]
    · rw [if_neg h, if_neg h]
      exact come_st O (by omega)
  | right key t =>
    rw [ex_right]
    show (if 1000000 < t then (m.st, [-2]) else if t < m.st.markR then _ else _) = _
    by_cases h : 1000000 < t
    · rw [if_pos h, if_pos h]
    · rw [if_neg h, if_neg h]
      exact come_stR O
  | markL t =>
    rw [ex_markL]
    show (if t < m.mark false then (m.st, [-2]) else if 1000000 + 1 < t then (m.st, [-3]) else ((if m.kind = 3 then (markAsks m.st t, []) else markLeft m.st t).1, Hs06.ints (changes (if m.kind = 3 then (markAsks m.st t, []) else markLeft m.st t).2))) = _
    by_cases h : t < m.mark false
    · rw [if_pos h, if_pos h]
    · rw [if_neg h, if_neg h]
      by_cases h2 : 1000000 + 1 < t
      · rw [if_pos h2, if_pos h2]
      · rw [if_neg h2, if_neg h2]
        have d : (if m.kind = 3 then (markAsks m.st t, []) else markLeft m.st t) = ((m.raise false t).1.st, (m.raise false t).2) := by
          by_cases h3 : m.kind = 3
          · rw [if_pos h3]
            obtain ⟨e1, e2⟩ := mark_left3 h3 (t := t) (by omega)
            rw [e1, e2]
          · rw [if_neg h3, mark_leftM h3]
        rw [d]
  | markR t =>
    rw [ex_markR]
    show (if t < m.mark true then (m.st, [-2]) else if 1000000 + 1 < t then (m.st, [-3]) else ((if m.kind = 3 then markVersions m.st t else markRight m.st t).1, Hs06.ints (changes (if m.kind = 3 then markVersions m.st t else markRight m.st t).2))) = _
    by_cases h : t < m.mark true
    · rw [if_pos h, if_pos h]
    · rw [if_neg h, if_neg h]
      by_cases h2 : 1000000 + 1 < t
      · rw [if_pos h2, if_pos h2]
      · rw [if_neg h2, if_neg h2]
        have d : (if m.kind = 3 then markVersions m.st t else markRight m.st t) = ((m.raise true t).1.st, (m.raise true t).2) := by
          by_cases h3 : m.kind = 3
          · rw [if_pos h3, mark_right3 h3 O]
          · rw [if_neg h3, mark_rightM h3]
        rw [d]
  | lefts => rfl
  | rights =>
    show (m.st, Hs06.ints (rows m.st.rights)) = (m.st, Hs06.ints (rows (m.shown true)))
    refine congrArg (fun r => (m.st, Hs06.ints (rows r))) ?_
    unfold M.shown
    by_cases h : m.kind = 3
    · rw [if_neg (by simp [h]), st3 h]
    · rw [if_pos (.inr h)]
      exact if_neg h
  | counts => rfl
  | at_ key t =>
    rw [ex_at]
    show (m.st, if m.kind ≠ 3 then [-4] else if 1000000 < t then [-2] else if t < m.mark false then [-5] else _) = (m.st, _)
    refine Prod.ext rfl ?_
    dsimp only
    by_cases h : m.kind = 3
    · have h' : ¬ m.kind ≠ 3 := fun q => q h
      rw [if_neg h', if_neg h']
      by_cases h2 : 1000000 < t
      · rw [if_pos h2, if_pos h2]
      · rw [if_neg h2, if_neg h2]
        by_cases h3 : t < m.mark false
        · rw [if_pos h3, if_pos h3]
        · rw [if_neg h3, if_neg h3, st3 h, asOf_kept (O.vid h) (.inl (by omega)) (by omega)]
          cases holding m.vers key t <;> rfl
    · rw [if_pos h, if_pos h]

/-! ### 7. How long things are -/
def Sz (n : Nat) (m : M) : Prop := (∀ s, (m.kept s).length ≤ n) ∧ m.vers.length ≤ n
theorem Sz.mono {n k : Nat} {m : M} (h : Sz n m) (l : n ≤ k) : Sz k m := ⟨fun s => Nat.le_trans (h.1 s) l, Nat.le_trans h.2 l⟩
theorem up_len {f : Bool → List Row} {s : Bool} {v : List Row} {n : Nat} (h : ∀ b, (f b).length ≤ n) (hv : v.length ≤ n) (b : Bool) : (up f s v b).length ≤ n := by
  unfold up
  split
  · exact hv
  · exact h b
theorem come_sz {m : M} {n : Nat} (z : Sz n m) {s : Bool} {key t : Nat} : Sz (n + 1) (m.come s key t).1 := by
  have z1 := z.mono (Nat.le_succ n)
  unfold M.come
  split
  · exact z1
  · unfold M.enter M.moment
    split
    · split
      · refine ⟨z1.1, ?_⟩
        show (m.vers ++ [_]).length ≤ n + 1
        rw [List.length_append]
        exact Nat.succ_le_succ z.2
      · split
        · exact z1
        · refine ⟨fun b => up_len (f := m.kept) z1.1 ?_ b, z1.2⟩
          show (m.kept false ++ [_]).length ≤ n + 1
          rw [List.length_append]
          exact Nat.succ_le_succ (z.1 false)
    · refine ⟨fun b => ?_, z1.2⟩
      show ((m.took s).keptMeet s _ b).length ≤ n + 1
      unfold M.keptMeet
      refine up_len (fun c => up_len (f := m.kept) z1.1 ?_ c) ?_ b
      · unfold M.touched
        rw [List.length_map]
        exact z1.1 _
      · split
        · show (m.kept s ++ [_]).length ≤ n + 1
          rw [List.length_append]
          exact Nat.succ_le_succ (z.1 s)
        · exact z1.1 s
theorem raise_sz {m : M} {n : Nat} (z : Sz n m) {s : Bool} {t : Nat} : Sz n (m.raise s t).1 := by
  unfold M.raise
  split
  · split
    · exact ⟨fun b => up_len (f := m.kept) z.1 (Nat.le_trans (List.length_filter_le _ _) (z.1 false)) b, z.2⟩
    · exact z
  · exact ⟨fun b => up_len (f := m.kept) z.1 (Nat.le_trans (List.length_filter_le _ _) (z.1 _)) b, z.2⟩
theorem step_sz {m : M} {n : Nat} (z : Sz n m) (c : Call) : Sz (n + 1) (m.step c).1 := by
  have z1 := z.mono (Nat.le_succ n)
  unfold M.step
  cases e : m.exec c with
  | error n => exact z1
  | ok r =>
    dsimp only
    cases c with
    | begin_ k a b e2 =>
      unfold M.exec at e
      dsimp only at e
      repeat' split at e
      all_goals cases e
      exact ⟨fun _ => Nat.zero_le _, Nat.zero_le _⟩
    | left k t =>
      unfold M.exec at e
      dsimp only at e
      split at e
      all_goals cases e
      exact come_sz z
    | right k t =>
      unfold M.exec at e
      dsimp only at e
      split at e
      all_goals cases e
      exact come_sz z
    | markL t =>
      unfold M.exec at e
      dsimp only at e
      repeat' split at e
      all_goals cases e
      exact raise_sz z1
    | markR t =>
      unfold M.exec at e
      dsimp only at e
      repeat' split at e
      all_goals cases e
      exact raise_sz z1
    | lefts => cases e; exact z1
    | rights => cases e; exact z1
    | counts => cases e; exact z1
    | at_ k t =>
      unfold M.exec at e
      dsimp only at e
      repeat' split at e
      all_goals cases e
      all_goals exact z1
theorem flat_len {α β : Type} {f : α → List β} {k : Nat} (h : ∀ x, (f x).length ≤ k) : ∀ l : List α, (l.flatMap f).length ≤ k * l.length
  | [] => by simp
  | x :: l => by
    rw [List.flatMap_cons, List.length_append, List.length_cons]
    have a := h x
    have b := flat_len h l
    rw [Nat.mul_succ]
    omega
theorem chOne_len (m : M) (s : Bool) (r o : Row) : (m.chOne s r o).length ≤ 2 := by
  unfold M.chOne
  split
  · split <;> simp
  · simp
theorem chMeet_len {m : M} {n : Nat} (z : Sz n m) (s : Bool) (r : Row) : (m.chMeet s r).length ≤ 2 * n + 1 := by
  unfold M.chMeet M.metAll
  rw [List.length_append]
  have a := flat_len (chOne_len m s r) (m.kept (!s))
  have b := z.1 (!s)
  have c : (if (!(m.metAny s r) && (m.once s || (m.late s && !(m.want s r (m.mark (!s)))))) = true then [chAlone true s r] else []).length ≤ 1 := by
    split <;> simp
  omega
theorem enter_len {m : M} {n : Nat} (z : Sz n m) (s : Bool) (r : Row) : (m.enter s r).2.length ≤ 2 * n + 1 := by
  unfold M.enter M.moment
  split
  · split
    · simp
    · split <;> simp
  · exact chMeet_len z s r
theorem raise_len {m : M} {n : Nat} (z : Sz n m) (s : Bool) (t : Nat) : (m.raise s t).2.length ≤ n := by
  unfold M.raise
  split
  · split
    · show (List.map _ _).length ≤ n
      rw [List.length_map, (List.mergeSort_perm _ _).length_eq]
      exact Nat.le_trans (List.length_filter_le _ _) (z.1 false)
    · simp
  · show (if _ then List.map _ _ else []).length ≤ n
    split
    · rw [List.length_map]
      exact Nat.le_trans (List.length_filter_le _ _) (Nat.le_trans (List.length_filter_le _ _) (z.1 _))
    · simp
theorem shown_len {m : M} {n : Nat} (z : Sz n m) (s : Bool) : (m.shown s).length ≤ n := by
  unfold M.shown
  split
  · exact z.1 s
  · exact Nat.le_trans (List.length_filter_le _ _) z.2

/-! ### 8. The numbers of a line, the whole line -/
def enc : Call → List Int
  | .begin_ k a b e => [0, k, a, b, e]
  | .left k t => [1, k, t]
  | .right k t => [2, k, t]
  | .markL t => [3, t]
  | .markR t => [4, t]
  | .lefts => [5]
  | .rights => [6]
  | .counts => [7]
  | .at_ k t => [8, k, t]
def belong : Nat → Nat
  | 0 => 4
  | 1 => 2
  | 2 => 2
  | 3 => 1
  | 4 => 1
  | 8 => 2
  | _ => 0
def code : Call → Nat
  | .begin_ .. => 0
  | .left .. => 1
  | .right .. => 2
  | .markL _ => 3
  | .markR _ => 4
  | .lefts => 5
  | .rights => 6
  | .counts => 7
  | .at_ .. => 8
theorem enc_head (c : Call) : (enc c)[0]? = some (code c : Int) := by cases c <;> rfl
theorem enc_len (c : Call) : (enc c).length = 1 + belong (code c) := by cases c <;> rfl
theorem code_lt (c : Call) : code c < 9 := by cases c <;> simp [code]
theorem nat_cast {z : Int} (h : Hs06Neutral.nat z = true) : ((z.toNat : Nat) : Int) = z := by
  unfold Hs06Neutral.nat at h
  simp only [Bool.and_eq_true, decide_eq_true_eq] at h
  omega
theorem callOf_enc {l : List Int} {x : Call} (h : Hs06Neutral.callOf [l] = some x) : l = enc x := by
  unfold Hs06Neutral.callOf at h
  split at h
  · cases h
  · rename_i hn
    have hn' : ∀ z ∈ l, Hs06Neutral.nat z = true := by simpa using hn
    have e : l = (l.map Int.toNat).map (fun (n : Nat) => (n : Int)) := by
      rw [List.map_map]
      refine (List.map_id l).symm.trans (List.map_congr_left fun z hz => ?_)
      exact (nat_cast (hn' z hz)).symm
    rw [e]
    have h2 : Hs06Neutral.callIn [l.map Int.toNat] = some x := h
    generalize l.map Int.toNat = k at h2
    unfold Hs06Neutral.callIn at h2
    split at h2
    all_goals first
      | (cases h2; done)
      | (rename_i q; simp only [List.cons.injEq, and_true] at q; subst q; cases h2; rfl)
theorem flat_call {l : List Int} {c : List (List Int)} {t : List Int} (h : PyFlat.call PyHs06.shape l = some (c, t)) : ∃ f, c = [f] ∧ l = f ++ t := by
  cases l with
  | nil => cases h
  | cons p r =>
    unfold PyFlat.call at h
    dsimp only at h
    cases e : PyHs06.shape p with
    | none => rw [e] at h; cases h
    | some nk =>
      obtain ⟨n, k⟩ := nk
      rw [e] at h
      dsimp only at h
      have hk : k = 0 := by
        unfold PyHs06.shape at e
        repeat' split at e
        all_goals first
          | (cases e; rfl)
          | cases e
      subst hk
      split at h
      · cases h
      · have h2 : some ([p :: r.take n], r.drop n) = some (c, t) := h
        cases h2
        exact ⟨_, rfl, by rw [List.cons_append, List.take_append_drop]⟩
theorem flat_calls : ∀ (f : Nat) (l : List Int) (raw : List (List (List Int))), PyFlat.calls PyHs06.shape f l = some raw → ∃ cs : List (List Int), raw = cs.map (fun c => [c]) ∧ l = cs.flatten
  | f, [], raw, h => by
    unfold PyFlat.calls at h
    cases h
    exact ⟨[], rfl, rfl⟩
  | 0, _ :: _, raw, h => by
    unfold PyFlat.calls at h
    cases h
  | f + 1, p :: r, raw, h => by
    unfold PyFlat.calls at h
    cases e : PyFlat.call PyHs06.shape (p :: r) with
    | none => rw [e] at h; cases h
    | some ct =>
      obtain ⟨c, t⟩ := ct
      rw [e] at h
      dsimp only at h
      cases e2 : PyFlat.calls PyHs06.shape f t with
      | none => rw [e2] at h; cases h
      | some cs =>
        rw [e2] at h
        cases h
        obtain ⟨g, rfl, e3⟩ := flat_call e
        obtain ⟨ds, rfl, e4⟩ := flat_calls f t cs e2
        exact ⟨g :: ds, rfl, by rw [e3, e4]; rfl⟩
theorem whole_id {c : List Int} : PyHs06.whole [c] = [c] := by
  unfold PyHs06.whole
  split
  all_goals first
    | rfl
    | (rename_i q; exact q.symm)
theorem played_run : ∀ (cs : List (List Int)) (xs : List Call) (m : M), Ok m → cs = xs.map enc → (∀ c ∈ cs, ∃ x, Hs06Neutral.callOf [c] = some x) →
    PyFlat.told (PyFlat.played Hs06Neutral.step m.st (cs.map fun c => [c])) = runAll m xs
  | [], [], m, _, _, _ => rfl
  | [], _ :: _, m, _, e, _ => by cases e
  | _ :: _, [], m, _, e, _ => by cases e
  | c :: cs, x :: xs, m, O, e, h => by
    obtain ⟨e1, e2⟩ := List.cons.inj (show c :: cs = enc x :: xs.map enc from e)
    obtain ⟨y, hy⟩ := h c List.mem_cons_self
    have hc : enc y = enc x := (callOf_enc hy).symm.trans e1
    have hxy : y = x := by
      cases y <;> cases x <;> simp [enc] at hc <;> (try rfl) <;> (try omega)
      all_goals first
        | (simp only [Call.begin_.injEq]; omega)
        | (simp only [Call.left.injEq]; omega)
        | (simp only [Call.right.injEq]; omega)
        | (simp only [Call.at_.injEq]; omega)
        | (congr 1; omega)
    subst hxy
    have st : Hs06Neutral.step m.st [c] = ((m.step y).1.st, (m.step y).2) := by
      unfold Hs06Neutral.step
      rw [hy]
      exact step_st O y
    show (((Hs06Neutral.step m.st [c]).2.length : Int) :: (Hs06Neutral.step m.st [c]).2) ++ PyFlat.told (PyFlat.played Hs06Neutral.step (Hs06Neutral.step m.st [c]).1 (cs.map fun c => [c])) = _
    rw [st, played_run cs xs (m.step y).1 (step_ok O y) e2 fun d hd => h d (List.mem_cons_of_mem _ hd)]
    rfl
theorem all_enc : ∀ {cs : List (List Int)}, (∀ c ∈ cs, ∃ x, Hs06Neutral.callOf [c] = some x) → ∃ xs : List Call, cs = xs.map enc
  | [], _ => ⟨[], rfl⟩
  | c :: cs, hc => by
    obtain ⟨xs, e2⟩ := all_enc fun d hd => hc d (List.mem_cons_of_mem _ hd)
    obtain ⟨x, hx⟩ := hc c List.mem_cons_self
    exact ⟨x :: xs, by rw [e2, callOf_enc hx]; rfl⟩
/-- **what is asked, and what is due** -/
theorem asked_run {l : List Int} (h : PyHs06.answers_asked l = true) : ∃ xs : List Call, l = (xs.map enc).flatten ∧ xs.length ≤ 60 ∧ PyHs06.answers l = runAll (new 0 10 10 false) xs ∧ (runAll (new 0 10 10 false) xs).length ≤ 10000000 := by
  unfold PyHs06.answers_asked at h
  cases e : PyFlat.calls PyHs06.shape l.length l with
  | none => rw [e] at h; cases h
  | some raw =>
    rw [e] at h
    simp only [Bool.and_eq_true] at h
    obtain ⟨⟨⟨⟨_, hn⟩, _⟩, ha⟩, hs⟩ := h
    obtain ⟨cs, rfl, hl⟩ := flat_calls _ _ _ e
    unfold Hs06Neutral.asked at ha
    simp only [Bool.and_eq_true, List.all_eq_true] at ha
    have hc : ∀ c ∈ cs, ∃ x, Hs06Neutral.callOf [c] = some x := fun c hc => by
      have q := ha.1 (PyHs06.whole [c]) (List.mem_map.mpr ⟨[c], List.mem_map.mpr ⟨c, hc, rfl⟩, rfl⟩)
      unfold Hs06Neutral.asked1 at q
      obtain ⟨x, hx⟩ := Option.isSome_iff_exists.mp q
      exact ⟨x, by rw [whole_id] at hx; exact hx⟩
    obtain ⟨xs, ex⟩ := all_enc hc
    have hw : (cs.map fun c => [c]).map PyHs06.whole = cs.map fun c => [c] := by
      rw [List.map_map]
      exact List.map_congr_left fun c _ => whole_id
    have ans : PyHs06.answers l = runAll (new 0 10 10 false) xs := by
      unfold PyHs06.answers PyHs06.calls
      rw [e]
      dsimp only
      rw [hw]
      exact played_run cs xs (new 0 10 10 false) (new_ok (by decide)) ex hc
    refine ⟨xs, by rw [hl, ex], ?_, ans, ?_⟩
    · unfold PyFlat.atMost at hn
      have q := of_decide_eq_true hn
      rw [ex] at q
      simpa using q
    · unfold PyFlat.short at hs
      have q := of_decide_eq_true hs
      rw [ans] at q
      exact q
end JM
namespace PySem
namespace LowX
open PySem.W PySem.Calls PyProof.Rows PySem.HandSPX
/-! ### the text of __init__ -/
def iA (p1 p2 : Pos) : Arguments := { posonlyargs := [], args := [{ arg := "self", annotation := none, pos := p1 }, { arg := "told", annotation := none, pos := p2 }], vararg := none, kwonlyargs := [], kw_defaults := [], kwarg := none, defaults := [] }
def iB (q1 q2 q3 q4 : Pos) : List Stmt := [.Assign [.Attribute (.Name "self" q1) "told" q2] (.Name "told" q3) q4]
def iS : Scope := { kind := .function, names := [(PySem.Str.ofString "self", .local), (PySem.Str.ofString "told", .local)], isGenerator := false, isCoroutine := false, more := [] }
/-- what the written part says of Low, at C, and of its __init__, at fI -/
structure LowTxt (K : Frag) (mg : Str → Option Value) (C fI : Addr) : Prop where
  gC : mg "Refused" = some (.ref C)
  cls : ∃ nm q N bs bm sn sub ab col dd k0 k1 k2 k3 k5, K.lookup C = some (excClassObj nm q C N bs bm true sn sub ab col dd k0 k1 k2 k3 k5 "ValueError.__new__") ∧ refsVE bm = true
  sa : findIn K (.ref C) "__setattr__" = some (some (.builtin "object.__setattr__"))
  ga : findIn K (.ref C) "__getattribute__" = some (some (.builtin "BaseException.__getattribute__"))
  gg : findIn K (.ref C) "__getattr__" = some none
  noN : findIn K (.ref C) "told" = some none
  iC : findIn K (.ref C) "__init__" = some (some (.ref fI))
  tC : typeIn K (.ref fI) = some (.type "function")
  kC : keepIn K (.ref C) = true
  exC : subIn K (.ref C) (.type "BaseException") = some true
  tyC : typeIn K (.ref C) = some (.type "type")
  hdC : hasDictIn K C = true
  te : exmOne K (.ref C) (.ref C) = some true
  fn : ∃ (oc : Value) (od : Option Addr) (doc pm : Value) (an : Option Addr) (cdv ct : Value) (osl : Array (Option Value)) (p1 p2 q1 q2 q3 q4 : Pos),
    K.lookup fI = some ⟨oc, od, .func (fnOf "__init__" "Refused.__init__" (iA p1 p2) (iB q1 q2 q3 q4) iS .none .none doc pm an cdv ct), osl⟩ ∧ codeIn K cdv "Refused.__init__" = true
theorem one_size (v : Value) : [v].length ≤ sizeLine := by
  rw [sizeLine_eq]
  exact (by decide : 1 ≤ 16777216)
theorem kept_but {K : Frag} {h h' : Heap} {x : Addr} (X : K.In h) (hx : K.lookup x = none) (k : ∀ b o, b ≠ x → h.get? b = some o → h'.get? b = some o) : K.In h' := fun a o e =>
  k a o (fun z => by rw [z, hx] at e; cases e) (X a o e)
theorem ldC {M : Model} {s : Shared} {name : Str} {scope : Scope} {L a : Addr} {cd : Value} {m : Str → Option Value} {x : Str} {pos : Pos} {v : Value} {Q : Value → Shared → Prop} {A : Around} {E : Value → Shared → Prop} (hn : s.heap.Ns L m) (hv : m x = some v) (h : Q v s)
    (hk : scope.kind = .function := by rfl) (hl : (envOfC name scope L a cd).kindOf x = some .local := by rfl) (hd : (x == ("__debug__" : Str)) = false := by decide) :
    wpAny M A (eval (.Name x pos) (envOfC name scope L a cd)) Q E s := wpAny_Name (wpAny_loadName_local hk hl hn hv h) hd
/-- what __init__ leaves of a fresh exception at x -/
structure InitEnd (h h' : Heap) (x C dx t1 : Addr) (v : Value) : Prop where
  keep : ∀ b o, b ≠ x → h.get? b = some o → h'.get? b = some o
  obj : h'.get? x = some { cls := .ref C, dict := some dx, data := .fields #[.ref t1, .none, .none, .none, .bool false, .none] }
  dbig : h.objs.size ≤ dx
  dne : dx ≠ x
  ns : h'.Ns1 dx (fun y => if y = "told" then some v else none)
/-- a made Low -/
structure OwnMade (h h' : Heap) (e C d : Addr) (v : Value) : Prop where
  keep : ∀ b o, h.get? b = some o → h'.get? b = some o
  new : h.objs.size ≤ e
  obj : ∃ oe vs, h'.get? e = some oe ∧ oe.cls = .ref C ∧ oe.dict = some d ∧ oe.data = .fields vs ∧ vs[1]? = some .none
  dbig : h.objs.size ≤ d
  dne : d ≠ e
  ns : h'.Ns1 d (fun y => if y = "told" then some v else none)
section
variable {prog : Program} {w : World} {A : Around} {E : Value → Shared → Prop} {R : Result → Shared → Prop} {s : Shared} {K : Frag} {mg : Str → Option Value} {C fI : Addr}
theorem low_init (T : LowTxt K mg C fI) {x t0 : Addr} {v : Value} (X : K.In s.heap) (hlim : s.heap.NoLimit) (hx : s.heap.get? x = some (excO C t0)) (hnx : K.lookup x = none) (hroom : A.depth < recursionLimit)
    (hq : ∀ h' tk dx, InitEnd s.heap h' x C dx t0 v → R (.ok (.ret .none)) { s with heap := h', toks := tk }) :
    codeAny (model prog w) A (.call (.ref fI) ⟨[.ref x, v], []⟩) R s := by
  obtain ⟨oc, od, doc, pm, an, cdv, ct, osl, p1, p2, q1, q2, q3, q4, ho, hcd⟩ := T.fn
  obtain ⟨nm, q, N, bs, bm, sn, sub, ab, col, dd, k0, k1, k2, k3, k5, hC, hbm⟩ := T.cls
  have hcl : clsIn K C = some { name := nm, bases := bs, mro := .ref C :: bm, ns := N, qualname := q, hasDict := true, slotNames := sn, subclasses := sub, abstract := ab, collection := col, hasDel := false } := by unfold clsIn; rw [hC] <;> rfl
  refine Att.call_fn (binds := [("self", .ref x), ("told", v)]) X hlim ho hcd hroom (BindsTo.of_eq (by first | rfl | with_unfolding_all rfl)) (by first | rfl | decide | with_unfolding_all rfl) (fun s₁ IC => ?_) rfl rfl rfl
  obtain ⟨h₁, tk₁, rfl⟩ := IC.toInCall.same
  have k : ∀ b o, s.heap.get? b = some o → h₁.get? b = some o := IC.toInCall.keep
  have hn := IC.toInCall.ns
  have hxL : s.heap.objs.size ≠ x := Nat.ne_of_gt (Heap.lt_size hx)
  have X₁ : K.In h₁ := X.keeps k
  have hx₁ := k _ _ hx
  -- self.by = by
  show wpAny _ _ (execs _ _) _ _ _
  refine wpAny_execs_cons (plainObj_wpAny_Assign_Attribute ?_)
  refine ldC (v := v) hn (by first | rfl | with_unfolding_all rfl | kernel_rfl) (ldC (v := .ref x) hn (by first | rfl | with_unfolding_all rfl | kernel_rfl) ?_)
  refine set_plain X₁ (ox := excO C t0) (od := none) ⟨hx₁, rfl, rfl, trivial⟩ T.sa ?_
  refine exc_osa X₁ hx₁ hcl (show refsVE (.ref C :: bm) = true from hbm) rfl T.noN (fun h₃ tk₃ dx k₃ dn dne hx₃ hn₃ => ?_)
  show wpAny _ _ (execs _ _) _ _ _
  have z : s.heap.objs.size < h₁.objs.size := hn.lt
  exact wpAny_execs_nil (hq h₃ tk₃ dx ⟨fun b o hb e => k₃ b o hb (k b o e), hx₃, Nat.le_of_lt (Nat.lt_of_lt_of_le z dn), dne, hn₃⟩)
theorem low_made (T : LowTxt K mg C fI) {v : Value} (X : K.In s.heap) (hlim : s.heap.NoLimit) (hroom : A.depth + 1 < recursionLimit)
    (hq : ∀ h' tk e d, OwnMade s.heap h' e C d v → R (.ok (.ret (.ref e))) { s with heap := h', toks := tk }) :
    codeAny (model prog w) A (.call (.ref C) ⟨[v], []⟩) R s := by
  obtain ⟨nm, q, N, bs, bm, sn, sub, ab, col, dd, k0, k1, k2, k3, k5, hC, hbm⟩ := T.cls
  obtain ⟨hp, g, dr, tk, os⟩ := s
  have k : ∀ b o, hp.get? b = some o → ((hp.push (kdv_tup [v])).push (excO C hp.objs.size)).get? b = some o := fun b o e => Heap.get?_push_of_some _ (Heap.get?_push_of_some _ e)
  have hget : ((hp.push (kdv_tup [v])).push (excO C hp.objs.size)).get? (hp.objs.size + 1) = some (excO C hp.objs.size) := by heap_get
  have hnx : K.lookup (hp.objs.size + 1) = none := by
    cases e : K.lookup (hp.objs.size + 1) with
    | none => rfl
    | some o =>
      have z : hp.get? (hp.objs.size + 1) = some o := X _ _ e
      exact absurd (Nat.lt_of_succ_lt (Heap.lt_size z)) (Nat.lt_irrefl _)
  refine call_own F.excBase_ValueError (fun X => refsVE_contains X bm hbm) (X _ _ hC) (looks_findIn X T.iC) (fun self => bind_fn X self T.tC) (one_size v) ?_
  refine low_init (s := ⟨(hp.push (kdv_tup [v])).push (excO C hp.objs.size), g, dr, tk, os⟩) T (X.keeps k) (hlim.keeps k) hget hnx ?_ fun h' tk' dx ⟨k', hx, dn, dne, hns⟩ => ?_
  · show A.depth + 1 < recursionLimit
    exact hroom
  · have old : ∀ b o, hp.get? b = some o → h'.get? b = some o := fun b o e => k' b o (Nat.ne_of_lt (Nat.lt_succ_of_lt (Heap.lt_size e))) (k b o e)
    have z : hp.objs.size + 1 + 1 ≤ dx := by
      first
        | (simpa only [Heap.size_push] using dn)
        | exact dn
        | (have q := dn; rw [Heap.size_push, Heap.size_push] at q; exact q)
    exact ⟨rfl, hq h' tk' (hp.objs.size + 1) dx ⟨old, Nat.le_succ _, ⟨_, _, hx, rfl, rfl, rfl, rfl⟩, Nat.le_trans (Nat.le_trans (Nat.le_succ _) (Nat.le_succ _)) z, dne, hns⟩⟩
end
end LowX
end PySem
namespace L2
open PySem PySem.Spec PyProof.Rows
theorem relO_low {v : V} {v' : Value} (r : RelV v v') (f : Str) : RelO (List.lookup f [(("told" : Str), v)]) (if f = "told" then some v' else none) := by
  by_cases hw : f = "told"
  · subst hw
    rw [if_pos rfl]
    have q : List.lookup ("told" : Str) [(("told" : Str), v)] = some v := by simp [List.lookup]
    rw [q]
    exact r
  · rw [if_neg hw]
    have qw : (f == ("told" : Str)) = false := by simpa using hw
    have q2 : List.lookup f [(("told" : Str), v)] = none := by simp [List.lookup, qw]
    rw [q2]
    trivial
section
variable {X : Cx} {C fI : Addr}
/-- Low(e) -/
def tMkLow (C : Addr) (ta : TA) : St → Hp → XK → Prop := fun σ H Q => ta σ H fun vs H1 => ∃ v, vs = [v] ∧ ∀ d, H1 d = none → Q (.ref C) (some d) (upd H1 d (.xd [(("told" : Str), v)]))
theorem pmk_low {a : Expr} {ta : TA} {p pos : Pos} {k : Nat} (T : PySem.LowX.LowTxt X.K X.mg C fI) (hr : Room k X.A) (ha : PA X [a] ta) (hg : Gl X "Refused" := by rfl)
    (he : starEach (a :: []) X.env = (false, eval a X.env) :: starEach [] X.env := by rfl) (hpl : (backTo pos (starEach [] X.env)).any (·.1) = false := by rfl) :
    PMk X (.Call (.Name "Refused" p) [a] [] pos) (tMkLow C ta) := by
  intro pins s σ H Q I h
  refine wpAny_Call_Name_kw (ld_glob I hg T.gC ?_)
  refine PySem.W.callWith_K (h₀ := X.base) I.ok.mod.kin T.kC (thn (ha.run pos pins s σ H _ I h) fun us s1 hh => ?_) he hpl
  obtain ⟨vs, H1, I1, r1, v, ev, q1⟩ := hh
  subst ev
  refine ⟨I1.kIn, ?_⟩
  cases r1 with
  | cons rv rn =>
    rename_i v' us'
    cases rn
    show wpAny _ _ (call (.ref C) [v']) _ _ _
    have hlim := I1.nolimit
    obtain ⟨hp, g, dr, tk, os⟩ := s1
    refine wpAny_call (PySem.LowX.low_made T I1.kIn hlim (by have := hr.dp; omega) fun h' tk' e d M => ?_)
    show MkP X pins σ Q (.ref e) ⟨h', g, dr, tk', os⟩
    obtain ⟨oe, fv, hoe, hc, hd, hdat, h1⟩ := M.obj
    have hns := M.ns
    obtain ⟨G', g1, g2⟩ := restrict h' fun b => decide (b ≠ e)
    have gk : ∀ b, b ≠ e → G'.get? b = h'.get? b := fun b hb => g1 b (decide_eq_true hb)
    have ge : G'.get? e = none := g2 e (by simp)
    have old : ∀ b o, hp.get? b = some o → G'.get? b = some o := fun b o q => (gk b (Nat.ne_of_lt (Nat.lt_of_lt_of_le (Heap.lt_size q) M.new))).trans (M.keep b o q)
    have ob : ObjOk X.prog X.w (upd H1 d (.xd [(("told" : Str), v)])) G' d (.xd [(("told" : Str), v)]) :=
      ⟨_, hns.at (fun o q => (gk d M.dne).trans q), fun f => relO_low rv f⟩
    have J : Inv X pins σ (upd H1 d (.xd [(("told" : Str), v)])) ⟨G', g, dr, tk', os⟩ := I1.laid (t' := tk') old M.dbig ob
    refine ⟨e, oe, fv, ⟨G', g, dr, tk', os⟩, _, .ref C, some d, rfl, J, fun b o q => ?_, ge, hoe, ⟨hc, hd⟩, hdat, h1, ?_, rfl, I1.bare, raises_own T.exC T.tyC, q1 d (I1.hok.fresh M.dbig)⟩
    · by_cases hb : b = e
      · have q' : G'.get? b = some o := q
        rw [hb, ge] at q'; cases q'
      · exact (gk b hb).symm.trans q
    · rw [upd_ne (Ne.symm M.dne)]
      exact I1.hok.fresh M.new
/-- raise Low(e) -/
def tRaiseLow (C : Addr) (W : WX) (ta : TA) : TS := fun _ σ H => tMkLow C ta σ H fun cls d H' => W cls d σ H'
theorem ps_raiseLow {a : Expr} {ta : TA} {W : WX} {p pos pos2 : Pos} {k : Nat} (hc : X.calm = true) (T : PySem.LowX.LowTxt X.K X.mg C fI) (hr : Room k X.A) (tk : Takes X W) (ha : PA X [a] ta) (hg : Gl X "Refused" := by rfl)
    (he : starEach (a :: []) X.env = (false, eval a X.env) :: starEach [] X.env := by rfl) (hpl : (backTo pos (starEach [] X.env)).any (·.1) = false := by rfl) :
    PS X (.Raise (some (.Call (.Name "Refused" p) [a] [] pos)) none pos2) (tRaiseLow C W ta) := ps_raise hc tk (pmk_low T hr ha hg he hpl)
/-- low.by, low the exception that the suite holds (at a; its class cls, its dict d) -/
def tByLow (C : Addr) (a : Addr) (cls : Value) (d : Option Addr) (te : TE) : TE := fun σ H Q => te σ H fun x H1 => x = .ref a ∧ cls = .ref C ∧ ∃ (dd : Addr) (v : V), d = some dd ∧ H1 dd = some (.xd [(("told" : Str), v)]) ∧ Q v H1
theorem pe_byLow {a : Addr} {oe : Obj} {cls : Value} {d : Option Addr} {pn : List (Addr × Obj)} {e : Expr} {te : TE} {pos : Pos} (T : PySem.LowX.LowTxt X.K X.mg C fI) (hz : Zc cls d oe) (hf : ∃ vs, oe.data = .fields vs) (he : PE (X.suite a ((a, oe) :: pn)) e te)
    (hb : attributeBase e "told" X.env (eval e X.env) = eval e X.env := by rfl) :
    PE (X.suite a ((a, oe) :: pn)) (.Attribute e "told" pos) (tByLow C a cls d te) := by
  refine ⟨fun pins s σ H Q I h => ?_⟩
  refine attr_of hb (thn (he.run pins s σ H _ I h) fun u s1 hh => ?_)
  obtain ⟨x, H1, I1, rx, ex, ec, dd, v, ed, ea, q⟩ := hh
  subst ex
  obtain rfl : u = Value.ref a := rx
  subst ec
  subst ed
  obtain ⟨ha, _⟩ := I1.pin (a, oe) (List.mem_append_left _ List.mem_cons_self)
  obtain ⟨vs, hd⟩ := hf
  have hx : ObjOk X.prog X.w H1 s1.heap dd (.xd [(("told" : Str), v)]) := I1.hok dd _ ea
  obtain ⟨mA, hns, hr⟩ := hx
  obtain ⟨od, ho, hl⟩ := lookIn_ns hns
  have l : List.lookup ("told" : Str) [(("told" : Str), v)] = some v := by simp [List.lookup]
  obtain ⟨u, hu, ru⟩ := RelO.some_of (v := v) (o := mA "told") (by rw [← l]; exact hr "told")
  have J : PySem.W.InstAt s1.heap a oe C (some od) := ⟨ha, hz.1, by unfold PySem.W.notCls; rw [hd] <;> rfl, by rw [hz.2]; exact ho⟩
  exact HandSPX.exc_get I1.kIn J T.ga T.gg T.exC (PySem.W.findObj_own T.hdC T.noN rfl (by rw [hl, hu])) (handed_of ru) ⟨v, H1, I1.tok _, ru, q⟩
end
end L2

namespace L2
open PySem PySem.Spec PyProof.Rows
/-- an if whose test is known -/
theorem if_true_of {c : Bool} {A B : Prop} (hc : c = true) (h : A) : if c = true then A else B := by
  rw [if_pos hc]
  exact h
theorem if_false_of {c : Bool} {A B : Prop} (hc : c = false) (h : B) : if c = true then A else B := by
  rw [hc, if_neg Bool.false_ne_true]
  exact h
end L2
/-! ### Rules of my own over the layer -/
namespace JW
open PySem PySem.Spec PyProof.Rows L2
section
variable {X : Cx} {a b o : Expr} {ta tb to : TE} {pos : Pos}
/-- xs[i] += e: the read -/
def gIx (K : PySem.W.Frag) : V → V → Hp → VK → Prop := fun o i H Q => ∃ (p : Addr) (xs : List V) (k : Int) (v : V), o = .ref p ∧ i = .int k ∧ SqL K H p xs ∧ 0 ≤ k ∧ xs[k.toNat]? = some v ∧ Q v H
theorem pget_list : PGet X (gIx X.K) := by
  intro pins s σ H o i ov iv Q I ro ri h
  obtain ⟨p, xs, k, v, rfl, rfl, hs, h0, hv, q⟩ := h
  cases ro
  obtain ⟨t, rfl⟩ := ri
  obtain ⟨its, r, pl, hz⟩ := I.list hs
  obtain ⟨u, eu, ru⟩ := r.get hv
  have hlt : k.toNat < xs.length := (List.getElem?_eq_some_iff.mp hv).1
  have hn := line63
  exact PySem.wpAny_getItem_list pl.isList h0 (by omega) (by simpa using eu) ⟨v, H, I, ru, q⟩
/-- t > u of pairs of whole numbers -/
def rGtP (K : PySem.W.Frag) : R2 := fun x y H Q => ∃ (p q : Addr) (i j k l : Int), x = .ref p ∧ y = .ref q ∧ SqT K H p [.int i, .int j] ∧ SqT K H q [.int k, .int l] ∧ Q (.bl (decide (k < i ∨ (i = k ∧ l < j)))) H
theorem op_gtP (hu : X.A.units < cLine) : OpR X (compareOp .Gt) (rGtP X.K) := by
  intro pins s σ H x y v u Q I rx ry h
  obtain ⟨a, b, i, j, k, l, rfl, rfl, ha, hb, q⟩ := h
  cases rx
  cases ry
  obtain ⟨its, r1, p1, _⟩ := I.tuple ha
  obtain ⟨its2, r2, p2, _⟩ := I.tuple hb
  obtain ⟨t1, t2, rfl⟩ := Vals.int2 r1
  obtain ⟨t3, t4, rfl⟩ := Vals.int2 r2
  have R := Ob.RcOp.tuples_gt (A := X.A) (s := s) (e := fun n => if n = 0 then decide (i = k) else decide (j = l)) (r := fun n => if n = 0 then decide (k < i) else decide (l < j)) p1 p2 hu (fun n h1 h2 => by
    have hn : n = 0 ∨ n = 1 := by simp at h1; omega
    rcases hn with rfl | rfl
    · have z : (i == k) = decide (i = k) := by rw [Bool.beq_eq_decide_eq]
      show SeqAt.EqAt _ _ (.int i t1) (.int k t3) (decide (i = k))
      rw [← z]
      exact SeqAt.EqAt.int_int _ _ _ _
    · have z : (j == l) = decide (j = l) := by rw [Bool.beq_eq_decide_eq]
      show SeqAt.EqAt _ _ (.int j t2) (.int l t4) (decide (j = l))
      rw [← z]
      exact SeqAt.EqAt.int_int _ _ _ _) (fun n h1 h2 _ => by
    have hn : n = 0 ∨ n = 1 := by simp at h1; omega
    rcases hn with rfl | rfl
    · exact Ob.RcOp.gt_int _ _ _ _
    · exact Ob.RcOp.gt_int _ _ _ _)
  have e : Ob.lexAt (fun n => if n = 0 then decide (i = k) else decide (j = l)) (fun n => if n = 0 then decide (k < i) else decide (l < j)) (decide ([Value.int i t1, Value.int j t2].toArray.size > [Value.int k t3, Value.int l t4].toArray.size)) 0
      (min [Value.int i t1, Value.int j t2].toArray.size [Value.int k t3, Value.int l t4].toArray.size) = decide (k < i ∨ (i = k ∧ l < j)) := by
    show (if decide (i = k) = true then (if decide (j = l) = true then decide (2 > 2) else decide (l < j)) else decide (k < i)) = _
    by_cases c : i = k
    · rw [if_pos (decide_eq_true c)]
      by_cases d : j = l
      · rw [if_pos (decide_eq_true d)]
        rw [decide_eq_false (by decide : ¬ 2 > 2)]
        exact (decide_eq_false (by omega)).symm
      · rw [if_neg (by rw [decide_eq_true_eq]; exact d)]
        exact decide_eq_decide.mpr (by omega)
    · rw [if_neg (by rw [decide_eq_true_eq]; exact c)]
      exact decide_eq_decide.mpr (by omega)
  rw [e] at R
  exact R X.prog X.w X.xe (EP X pins σ Q) ⟨.bl _, H, I, rfl, q⟩
end

/-! ### defs, methods, classes by their promises -/
/-- a def of the module -/
structure DefOk (K : PySem.W.Frag) (mg : Str → Option Value) (x : Str) (st : Stmt) : Prop where
  ex : ∃ (f : Addr) (fd : FuncData), Fun K x x st f fd ∧ mg x = some (.ref f)
/-- a method's def -/
structure MetOk (K : PySem.W.Frag) (C : Addr) (m qual : Str) (st : Stmt) : Prop where
  ex : ∃ (f : Addr) (fd : FuncData), Fun K m qual st f fd ∧ Meth K C m f
/-- a class's __init__ -/
structure IniOk (K : PySem.W.Frag) (mg : Str → Option Value) (x : Str) (C : Addr) (qual : Str) (st : Stmt) : Prop where
  ex : ∃ (f : Addr) (fd : FuncData), Fun K "__init__" qual st f fd ∧ Mk K C f ∧ mg x = some (.ref C)
structure Cal (P : Program) (w : World) (K : PySem.W.Frag) (mg : Str → Option Value) (base : Heap) (CX : CXT) (k : Nat) (x : Str) (sp : Sp) : Prop where
  ex : ∃ (f : Addr) (fd : FuncData) (ps : List Str), FnOk P w K mg base CX k f fd ps sp ∧ mg x = some (.ref f) ∧ PySem.W.keepIn K (.ref f) = true ∧ Binds K fd ps []
structure Met (P : Program) (w : World) (K : PySem.W.Frag) (mg : Str → Option Value) (base : Heap) (CX : CXT) (k : Nat) (C : Addr) (m : Str) (sp : Sp) : Prop where
  ex : ∃ (f : Addr) (fd : FuncData) (ps : List Str), Cls K C ∧ Meth K C m f ∧ FnOk P w K mg base CX k f fd ps sp ∧ Binds K fd ps []
structure Mak (P : Program) (w : World) (K : PySem.W.Frag) (mg : Str → Option Value) (base : Heap) (CX : CXT) (k : Nat) (x : Str) (C : Addr) (sp : Sp) : Prop where
  ex : ∃ (f : Addr) (fd : FuncData) (ps : List Str), Mk K C f ∧ mg x = some (.ref C) ∧ FnOk P w K mg base CX k f fd ps sp ∧ Binds K fd ps []
/-- how the arguments of a def of the text bind -/
def BindsOk (st : Stmt) (x qual : Str) (ps : List Str) : Prop := ∀ (kV doc pm : Value) (an : Option Addr) (cdv ct : Value) (us : List Value), us.length = ps.length → bindArgs (PySem.W.fnOf x qual (defArgs st) (defBody st) (defScope st) .none kV doc pm an cdv ct) ⟨us, []⟩ = pure (ps.zip us)
section
variable {P : Program} {w : World} {K : PySem.W.Frag} {mg : Str → Option Value} {base : Heap} {x m qual : Str} {C : Addr} {st : Stmt} {N ps : List Str} {k : Nat} {sp : Sp}
theorem cal0 (D : DefOk K mg x st) (hb : BindsOk st x x ps) (S : FnScope N ps (defScope st)) (len : ∀ vs H Q E, sp vs H Q E → vs.length = ps.length)
    (body : ∀ (f : Addr) (cdv : Value) (A : Around) (outer : List Env) (s : Shared) (H : Hp) (vs : List V) (Q : VK) (E : XK), Room k (A.deeper (envOfC x (defScope st) s.heap.objs.size f cdv)) → sp vs H Q E →
      ∃ t, PSs (cxOf CX0 P w K mg base N x (defScope st) f cdv A outer s H E).nox (defBody st) t ∧ t { nx := fun _ H' => Q .non H', rt := Q } (start N vs) H) : Cal P w K mg base CX0 (k + 1) x sp := by
  obtain ⟨f, fd, F, hm⟩ := D.ex
  exact ⟨f, fd, ps, F.ok S len (body f), hm, F.kp, F.binds hb⟩
theorem calX (D : DefOk K mg x st) (hb : BindsOk st x x ps) (S : FnScope N ps (defScope st)) (len : ∀ vs H Q E, sp vs H Q E → vs.length = ps.length)
    (body : ∀ (f : Addr) (cdv : Value) (A : Around) (outer : List Env) (s : Shared) (H : Hp) (vs : List V) (Q : VK) (E : XK), Room k (A.deeper (envOfC x (defScope st) s.heap.objs.size f cdv)) → sp vs H Q E →
      ∃ t, PSs (cxOf (L2.CX P w) P w K mg base N x (defScope st) f cdv A outer s H E) (defBody st) t ∧ t { nx := fun _ H' => Q .non H', rt := Q } (start N vs) H) : Cal P w K mg base (L2.CX P w) (k + 1) x sp := by
  obtain ⟨f, fd, F, hm⟩ := D.ex
  exact ⟨f, fd, ps, F.okX S len (body f), hm, F.kp, F.binds hb⟩
theorem met0 (c : Cls K C) (D : MetOk K C m qual st) (hb : BindsOk st m qual ps) (S : FnScope N ps (defScope st)) (len : ∀ vs H Q E, sp vs H Q E → vs.length = ps.length)
    (body : ∀ (f : Addr) (cdv : Value) (A : Around) (outer : List Env) (s : Shared) (H : Hp) (vs : List V) (Q : VK) (E : XK), Room k (A.deeper (envOfC qual (defScope st) s.heap.objs.size f cdv)) → sp vs H Q E →
      ∃ t, PSs (cxOf CX0 P w K mg base N qual (defScope st) f cdv A outer s H E).nox (defBody st) t ∧ t { nx := fun _ H' => Q .non H', rt := Q } (start N vs) H) : Met P w K mg base CX0 (k + 1) C m sp := by
  obtain ⟨f, fd, F, hm⟩ := D.ex
  exact ⟨f, fd, ps, c, hm, F.ok S len (body f), F.binds hb⟩
theorem metX (c : Cls K C) (D : MetOk K C m qual st) (hb : BindsOk st m qual ps) (S : FnScope N ps (defScope st)) (len : ∀ vs H Q E, sp vs H Q E → vs.length = ps.length)
    (body : ∀ (f : Addr) (cdv : Value) (A : Around) (outer : List Env) (s : Shared) (H : Hp) (vs : List V) (Q : VK) (E : XK), Room k (A.deeper (envOfC qual (defScope st) s.heap.objs.size f cdv)) → sp vs H Q E →
      ∃ t, PSs (cxOf (L2.CX P w) P w K mg base N qual (defScope st) f cdv A outer s H E) (defBody st) t ∧ t { nx := fun _ H' => Q .non H', rt := Q } (start N vs) H) : Met P w K mg base (L2.CX P w) (k + 1) C m sp := by
  obtain ⟨f, fd, F, hm⟩ := D.ex
  exact ⟨f, fd, ps, c, hm, F.okX S len (body f), F.binds hb⟩
theorem mak0 (D : IniOk K mg x C qual st) (hb : BindsOk st "__init__" qual ps) (S : FnScope N ps (defScope st)) (len : ∀ vs H Q E, sp vs H Q E → vs.length = ps.length)
    (body : ∀ (f : Addr) (cdv : Value) (A : Around) (outer : List Env) (s : Shared) (H : Hp) (vs : List V) (Q : VK) (E : XK), Room k (A.deeper (envOfC qual (defScope st) s.heap.objs.size f cdv)) → sp vs H Q E →
      ∃ t, PSs (cxOf CX0 P w K mg base N qual (defScope st) f cdv A outer s H E).nox (defBody st) t ∧ t { nx := fun _ H' => Q .non H', rt := Q } (start N vs) H) : Mak P w K mg base CX0 (k + 1) x C sp := by
  obtain ⟨f, fd, F, M, hm⟩ := D.ex
  exact ⟨f, fd, ps, M, hm, F.ok S len (body f), F.binds hb⟩
end
section
variable {X : Cx} {CX : CXT} {k j : Nat} {C : Addr} {x m : Str} {sp : Sp} {E : XK} {p pos apos : Pos} {e o : Expr} {es : List Expr} {ta : TE} {t : TA}
theorem pe_c (c : Cal X.prog X.w X.K X.mg X.base CX k x sp) (hr : Room j X.A) (hk : k ≤ j) (hx : Passes CX X E) (hg : Gl X x) (ha : PA X (e :: es) t)
    (hdb : (x == ("__debug__" : Str)) = false := by decide) (he : starEach (e :: es) X.env = (false, eval e X.env) :: starEach es X.env := by rfl) (hpl : (backTo pos (starEach es X.env)).any (·.1) = false := by rfl) :
    PE X (.Call (.Name x p) (e :: es) [] pos) (tCall sp [] E t) := by
  obtain ⟨f, fd, ps, F, hm, kp, b⟩ := c.ex
  exact pe_call F (hr.mono hk) hg hm kp b .nil hx ha hdb he hpl
theorem pe_mk (c : Mak X.prog X.w X.K X.mg X.base CX k x C sp) (hr : Room j X.A) (hk : k + 1 ≤ j) (hx : Passes CX X E) (hg : Gl X x) (ha : PA X (e :: es) t)
    (hdb : (x == ("__debug__" : Str)) = false := by decide) (he : starEach (e :: es) X.env = (false, eval e X.env) :: starEach es X.env := by rfl) (hpl : (backTo pos (starEach es X.env)).any (·.1) = false := by rfl) :
    PE X (.Call (.Name x p) (e :: es) [] pos) (tMake C sp [] E t) := by
  obtain ⟨f, fd, ps, M, hm, F, b⟩ := c.ex
  exact pe_make M F (hr.mono hk) hg hm b .nil hx ha hdb he hpl
theorem pe_mk0 (c : Mak X.prog X.w X.K X.mg X.base CX k x C sp) (hr : Room j X.A) (hk : k + 1 ≤ j) (hx : Passes CX X E) (hg : Gl X x)
    (hdb : (x == ("__debug__" : Str)) = false := by decide) : PE X (.Call (.Name x p) [] [] pos) (tMake C sp [] E tNil) := by
  obtain ⟨f, fd, ps, M, hm, F, b⟩ := c.ex
  exact pe_make0 M F (hr.mono hk) hg hm b .nil hx hdb
theorem pe_mt {pl : Sem Bool} (c : Met X.prog X.w X.K X.mg X.base CX k C m sp) (hr : Room j X.A) (hk : k ≤ j) (hx : Passes CX X E) (he : PE X o ta) (ha : PA X (e :: es) t)
    (hst : starEach (e :: es) X.env = (false, eval e X.env) :: starEach es X.env := by rfl) (hpl : (backTo pos (starEach es X.env)).any (·.1) = false := by rfl)
    (ht : eval (.Call (.Attribute o m apos) (e :: es) [] pos) X.env = (do
      let ov ← eval o X.env
      standAt apos.atName
      let (f, first) ← holding [ov] (getMethod ov m pl)
      callWith pos f first (backTo pos (starEach (e :: es) X.env)) (backToKw pos (keywordEach [] X.env))) := by rfl) :
    PE X (.Call (.Attribute o m apos) (e :: es) [] pos) (tMeth C m sp [] E ta t) := by
  obtain ⟨f, fd, ps, hc, hm, F, b⟩ := c.ex
  exact pe_meth (pl := pl) he hc hm F (hr.mono hk) b .nil hx ha hst hpl ht
theorem pe_mt0 {pl : Sem Bool} (c : Met X.prog X.w X.K X.mg X.base CX k C m sp) (hr : Room j X.A) (hk : k ≤ j) (hx : Passes CX X E) (he : PE X o ta)
    (ht : eval (.Call (.Attribute o m apos) [] [] pos) X.env = (do
      let ov ← eval o X.env
      standAt apos.atName
      let (f, first) ← holding [ov] (getMethod ov m pl)
      callWith pos f first (backTo pos (starEach [] X.env)) (backToKw pos (keywordEach [] X.env))) := by rfl) :
    PE X (.Call (.Attribute o m apos) [] [] pos) (tMeth C m sp [] E ta tNil) := by
  obtain ⟨f, fd, ps, hc, hm, F, b⟩ := c.ex
  exact pe_meth0 (pl := pl) he hc hm F (hr.mono hk) b .nil hx ht
end
/-- o.m(e, ..) within a try: what it raises is wished for at the slots as they stand -/
def tMethS (C : Addr) (m : Str) (sp : Sp) (E : L2.St → XK) (ta : TE) (t : TA) : TE := fun σ H Q => ta σ H fun x H1 => ∃ a dx fs, x = .ref a ∧ H1 a = some (.ins C dx fs) ∧ fs.lookup m = none ∧ t σ H1 fun vs H2 => sp (x :: vs) H2 Q (E σ)
theorem pe_mtS {X : Cx} {CX : CXT} {k j : Nat} {C : Addr} {sp : Sp} {E : L2.St → XK} {m : Str} {pos apos : Pos} {e o : Expr} {es : List Expr} {ta : TE} {t : TA} {pl : Sem Bool} (c : Met X.prog X.w X.K X.mg X.base CX k C m sp) (hr : Room j X.A) (hk : k ≤ j)
    (he : PE X o ta) (hx : ∀ σ, PassesAt CX X σ (E σ)) (ha : PA X (e :: es) t)
    (hst : starEach (e :: es) X.env = (false, eval e X.env) :: starEach es X.env := by rfl) (hpl : (backTo pos (starEach es X.env)).any (·.1) = false := by rfl)
    (ht : eval (.Call (.Attribute o m apos) (e :: es) [] pos) X.env = (do
      let ov ← eval o X.env
      standAt apos.atName
      let (f, first) ← holding [ov] (getMethod ov m pl)
      callWith pos f first (backTo pos (starEach (e :: es) X.env)) (backToKw pos (keywordEach [] X.env))) := by rfl) :
    PE X (.Call (.Attribute o m apos) (e :: es) [] pos) (tMethS C m sp E ta t) := by
  obtain ⟨f, fd, ps, hc, hm, F, hb⟩ := c.ex
  refine ⟨fun pins s σ H Q I h => ?_⟩
  refine PySem.W.methodCall_KW (pl := pl) (thn (he.run pins s σ H _ I h) fun u s1 ⟨x, H1, I1, rx, a, dx, fs, ex, ea, l, q⟩ => ?_) ht
  subst ex
  obtain rfl : u = Value.ref a := rx
  refine getmeth_ok I1 ea hc hm l ?_
  refine PySem.W.callWith_K (first := [.ref a]) (h₀ := X.base) I.ok.mod.kin hm.kp (thn (ha.run pos pins s1 σ H1 _ I1 q) fun us s2 ⟨vs, H2, I2, r, q2⟩ => ⟨I2.kIn, ?_⟩) hst hpl
  exact run_fnS (us := .ref a :: us) (vs := .ref a :: vs) F (hr.mono hk) hb (hx σ) I2 (.cons rfl r) q2
end JW
/-! ### How the records lie in the heap -/
namespace JW
open PySem PySem.Spec PyProof.Rows L2
open JM (M)
abbrev R := Hs06.Row
abbrev Chg := Hs06.Change
/-- where the classes stand -/
structure Adr where
  CR : Addr
  CJ : Addr
  CT : Addr
  CL : Addr
  CF : Addr
  fI : Addr
def sv (s : Bool) : Int := if s = true then 1 else 0
def nv (n : Nat) : V := .int (n : Int)
theorem lk_here {k : Str} {v : V} {r : List (Str × V)} : List.lookup k ((k, v) :: r) = some v := by
  have e : (k == k) = true := beq_self_eq_true k
  simp only [List.lookup, e]
theorem lk_past {k g : Str} {v : V} {r : List (Str × V)} (h : (k == g) = false) : List.lookup k ((g, v) :: r) = List.lookup k r := by
  simp only [List.lookup, h]
theorem put_here {f : Str} {v x : V} {r : List (Str × V)} : putF f v ((f, x) :: r) = (f, v) :: r := if_pos rfl
theorem put_past {f g : Str} {v x : V} {r : List (Str × V)} (h : ¬ g = f) : putF f v ((g, x) :: r) = (g, x) :: putF f v r := if_neg h
/-- all that was tracked ahead of it, but what is at S -/
def Kp (S : Addr → Prop) (H H' : Hp) : Prop := ∀ b o, H b = some o → ¬ S b → H' b = some o
theorem Kp.refl {S : Addr → Prop} {H : Hp} : Kp S H H := fun _ _ e _ => e
theorem Kp.trans {S : Addr → Prop} {H H' H'' : Hp} (a : Kp S H H') (b : Kp S H' H'') : Kp S H H'' := fun c o e n => b c o (a c o e n) n
theorem Kp.mono {S S' : Addr → Prop} {H H' : Hp} (a : Kp S H H') (h : ∀ b, S b → S' b) : Kp S' H H' := fun c o e n => a c o e fun z => n (h c z)
theorem Kp.of {S : Addr → Prop} {H H' : Hp} (a : Same H H') : Kp S H H' := fun c o e _ => a c o e
theorem same_upd {H : Hp} {p : Addr} {o : HO} (hp : H p = none) : Same H (upd H p o) := fun b u e => by
  rw [upd_ne (ne_of_none e hp)]
  exact e
theorem Kp.upd {S : Addr → Prop} {H : Hp} {p : Addr} {o : HO} (hp : S p) : Kp S H (upd H p o) := fun b u e n => by
  rw [upd_ne (fun z => n (by rw [z]; exact hp))]
  exact e
theorem Same.made2 {H : Hp} {x dx C : Addr} {fs : List (Str × V)} (nx : H x = none) (nd : H dx = none) : Same H (upd (upd H dx (.own x)) x (.ins C dx fs)) := fun b o e => by
  rw [upd_ne (ne_of_none e nx), upd_ne (ne_of_none e nd)]
  exact e
/-! rows -/
def rowF (r : R) : List (Str × V) := [("number", nv r.id), ("key", nv r.key), ("time", nv r.t), ("has_met", .bl r.met)]
theorem rowF_number (r : R) : (rowF r).lookup ("number" : Str) = some (nv r.id) := lk_here
theorem rowF_key (r : R) : (rowF r).lookup ("key" : Str) = some (nv r.key) := (lk_past (by decide +kernel)).trans lk_here
theorem rowF_time (r : R) : (rowF r).lookup ("time" : Str) = some (nv r.t) := (lk_past (by decide +kernel)).trans ((lk_past (by decide +kernel)).trans lk_here)
theorem rowF_met (r : R) : (rowF r).lookup ("has_met" : Str) = some (.bl r.met) := (lk_past (by decide +kernel)).trans ((lk_past (by decide +kernel)).trans ((lk_past (by decide +kernel)).trans lk_here))
theorem rowF_shown (r : R) : (rowF r).lookup ("shown" : Str) = none := (lk_past (by decide +kernel)).trans ((lk_past (by decide +kernel)).trans ((lk_past (by decide +kernel)).trans ((lk_past (by decide +kernel)).trans rfl)))
theorem rowF_put (r : R) : putF "has_met" (.bl true) (rowF r) = rowF { r with met := true } := by
  exact (put_past (by decide +kernel)).trans (congrArg _ ((put_past (by decide +kernel)).trans (congrArg _ ((put_past (by decide +kernel)).trans (congrArg _ put_here)))))
def RowAt (A : Adr) (H : Hp) (a : Addr) (r : R) : Prop := ∃ dx, H a = some (.ins A.CR dx (rowF r))
def RowsAt (A : Adr) (H : Hp) (as : List Addr) (rs : List R) : Prop := as.length = rs.length ∧ ∀ (i : Nat) (a : Addr) (r : R), as[i]? = some a → rs[i]? = some r → RowAt A H a r
section
variable {A : Adr} {H H' : Hp} {a p : Addr} {r : R} {as : List Addr} {rs : List R}
theorem RowAt.same (h : RowAt A H a r) (k : Same H H') : RowAt A H' a r := let ⟨dx, e⟩ := h; ⟨dx, k _ _ e⟩
theorem RowAt.at (h : RowAt A H a r) (k : ∀ o, H a = some o → H' a = some o) : RowAt A H' a r := let ⟨dx, e⟩ := h; ⟨dx, k _ e⟩
theorem RowAt.ne {xs : List V} (h : RowAt A H a r) (hp : H p = some (.lst xs)) : a ≠ p := let ⟨_, e⟩ := h; ne_of e hp (by intro z; cases z)
theorem RowAt.neT {xs : List V} (h : RowAt A H a r) (hp : H p = some (.tup xs)) : a ≠ p := let ⟨_, e⟩ := h; ne_of e hp (by intro z; cases z)
theorem RowAt.neN (h : RowAt A H a r) (hp : H p = none) : a ≠ p := let ⟨_, e⟩ := h; ne_of_none e hp
theorem RowAt.inj {r' : R} (h : RowAt A H a r) (h' : RowAt A H a r') : rowF r = rowF r' := by
  obtain ⟨d, e⟩ := h
  obtain ⟨d', e'⟩ := h'
  rw [e] at e'
  injection e' with e'
  injection e'
theorem RowsAt.get {i : Nat} (h : RowsAt A H as rs) (e : as[i]? = some a) : ∃ r, rs[i]? = some r ∧ RowAt A H a r := by
  have hi : i < rs.length := by rw [← h.1]; exact (List.getElem?_eq_some_iff.mp e).1
  exact ⟨rs[i], List.getElem?_eq_getElem hi, h.2 i a _ e (List.getElem?_eq_getElem hi)⟩
theorem RowsAt.mem (h : RowsAt A H as rs) (m : a ∈ as) : ∃ r, r ∈ rs ∧ RowAt A H a r := by
  obtain ⟨i, hi⟩ := List.mem_iff_getElem?.mp m
  obtain ⟨r, e, q⟩ := h.get hi
  exact ⟨r, List.mem_of_getElem? e, q⟩
theorem RowsAt.at (h : RowsAt A H as rs) (k : ∀ a ∈ as, ∀ o, H a = some o → H' a = some o) : RowsAt A H' as rs :=
  ⟨h.1, fun i a r e1 e2 => (h.2 i a r e1 e2).at (k a (List.mem_of_getElem? e1))⟩
theorem RowsAt.same (h : RowsAt A H as rs) (k : Same H H') : RowsAt A H' as rs := h.at fun a _ o => k a o
theorem RowsAt.upd {o : HO} (h : RowsAt A H as rs) (k : ∀ a ∈ as, a ≠ p) : RowsAt A (L2.upd H p o) as rs := h.at fun a m u e => by rw [upd_ne (k a m)]; exact e
theorem RowsAt.ne {xs : List V} (h : RowsAt A H as rs) (hp : H p = some (.lst xs)) : ∀ a ∈ as, a ≠ p := fun a m => let ⟨_, _, q⟩ := h.mem m; q.ne hp
theorem RowsAt.neN (h : RowsAt A H as rs) (hp : H p = none) : ∀ a ∈ as, a ≠ p := fun a m => let ⟨_, _, q⟩ := h.mem m; q.neN hp
theorem RowsAt.nil : RowsAt A H [] [] := ⟨rfl, fun i a r e => by simp at e⟩
theorem RowsAt.snoc (h : RowsAt A H as rs) (q : RowAt A H a r) : RowsAt A H (as ++ [a]) (rs ++ [r]) := by
  refine ⟨by rw [List.length_append, List.length_append, h.1] <;> rfl, fun i b x e1 e2 => ?_⟩
  by_cases hi : i < as.length
  · rw [List.getElem?_append_left hi] at e1
    rw [List.getElem?_append_left (by rw [← h.1]; exact hi)] at e2
    exact h.2 i b x e1 e2
  · rw [List.getElem?_append_right (by omega)] at e1
    rw [List.getElem?_append_right (by rw [← h.1]; omega)] at e2
    rw [← h.1] at e2
    cases q2 : i - as.length with
    | zero =>
      rw [q2] at e1 e2
      have z1 : a = b := by simpa using e1
      have z2 : r = x := by simpa using e2
      subst z1 z2
      exact q
    | succ n =>
      rw [q2] at e1
      simp at e1
end
theorem refs_get {as : List Addr} {i : Nat} {v : V} (h : (as.map V.ref)[i]? = some v) : ∃ a, as[i]? = some a ∧ v = .ref a := by
  rw [List.getElem?_map] at h
  cases e : as[i]? with
  | none => rw [e] at h; cases h
  | some a =>
    rw [e] at h
    exact ⟨a, rfl, (Option.some.inj h).symm⟩
theorem take_more {α : Type} : ∀ {l : List α} {i : Nat} {x : α}, l[i]? = some x → l.take (i + 1) = l.take i ++ [x]
  | [], i, x, h => by simp at h
  | a :: l, 0, x, h => by
    have e : a = x := Option.some.inj h
    subst e
    rfl
  | a :: l, i + 1, x, h => by
    have ih := take_more (l := l) (i := i) (x := x) h
    show a :: l.take (i + 1) = a :: l.take i ++ [x]
    rw [ih]
    rfl
/-! changes -/
def chI (c : Chg) : List Int := [if c.1 = true then 1 else 0, (c.2.1 : Nat), (c.2.2 : Nat)]
def ChAt (H : Hp) (as : List Addr) (cs : List Chg) : Prop := as.length = cs.length ∧ ∀ (i : Nat) (a : Addr) (c : Chg), as[i]? = some a → cs[i]? = some c → H a = some (.tup ((chI c).map V.int))
section
variable {H H' : Hp} {a p : Addr} {as : List Addr} {cs : List Chg} {c : Chg}
theorem ChAt.nil : ChAt H [] [] := ⟨rfl, fun i a r e => by simp at e⟩
theorem ChAt.get {i : Nat} (h : ChAt H as cs) (e : as[i]? = some a) : ∃ c, cs[i]? = some c ∧ H a = some (.tup ((chI c).map V.int)) := by
  have hi : i < cs.length := by rw [← h.1]; exact (List.getElem?_eq_some_iff.mp e).1
  exact ⟨cs[i], List.getElem?_eq_getElem hi, h.2 i a _ e (List.getElem?_eq_getElem hi)⟩
theorem ChAt.at (h : ChAt H as cs) (k : ∀ a xs, H a = some (.tup xs) → H' a = some (.tup xs)) : ChAt H' as cs := ⟨h.1, fun i a c e1 e2 => k _ _ (h.2 i a c e1 e2)⟩
theorem ChAt.same (h : ChAt H as cs) (k : Same H H') : ChAt H' as cs := h.at fun _ _ => k _ _
/-- a list or an instance is written -/
theorem ChAt.upd {o u : HO} (h : ChAt H as cs) (hp : H p = some u) (hu : ∀ xs, u ≠ .tup xs) : ChAt (L2.upd H p o) as cs := h.at fun a xs e => by
  rw [upd_ne (ne_of e hp fun z => hu xs z.symm)]
  exact e
theorem ChAt.new {o : HO} (h : ChAt H as cs) (hp : H p = none) : ChAt (L2.upd H p o) as cs := h.same (same_upd hp)
theorem ChAt.snoc (h : ChAt H as cs) (q : H a = some (.tup ((chI c).map V.int))) : ChAt H (as ++ [a]) (cs ++ [c]) := by
  refine ⟨by rw [List.length_append, List.length_append, h.1] <;> rfl, fun i b x e1 e2 => ?_⟩
  by_cases hi : i < as.length
  · rw [List.getElem?_append_left hi] at e1
    rw [List.getElem?_append_left (by rw [← h.1]; exact hi)] at e2
    exact h.2 i b x e1 e2
  · rw [List.getElem?_append_right (by omega)] at e1
    rw [List.getElem?_append_right (by rw [← h.1]; omega)] at e2
    rw [← h.1] at e2
    cases q2 : i - as.length with
    | zero =>
      rw [q2] at e1 e2
      have z1 : a = b := by simpa using e1
      have z2 : c = x := by simpa using e2
      subst z1 z2
      exact q
    | succ n =>
      rw [q2] at e1
      simp at e1
end
/-! terms, the join -/
def termF (m : M) : List (Str × V) := [("kind", nv m.kind), ("ahead", nv m.ahead), ("after", nv m.after), ("eager", .int (sv m.eager))]
theorem termF_kind (m : M) : (termF m).lookup ("kind" : Str) = some (nv m.kind) := lk_here
theorem termF_ahead (m : M) : (termF m).lookup ("ahead" : Str) = some (nv m.ahead) := (lk_past (by decide +kernel)).trans lk_here
theorem termF_after (m : M) : (termF m).lookup ("after" : Str) = some (nv m.after) := (lk_past (by decide +kernel)).trans ((lk_past (by decide +kernel)).trans lk_here)
theorem termF_eager (m : M) : (termF m).lookup ("eager" : Str) = some (.int (sv m.eager)) := (lk_past (by decide +kernel)).trans ((lk_past (by decide +kernel)).trans ((lk_past (by decide +kernel)).trans lk_here))
theorem termF_no (m : M) {x : Str} (h1 : (x == ("kind" : Str)) = false) (h2 : (x == ("ahead" : Str)) = false) (h3 : (x == ("after" : Str)) = false) (h4 : (x == ("eager" : Str)) = false) : (termF m).lookup x = none :=
  (lk_past h1).trans ((lk_past h2).trans ((lk_past h3).trans ((lk_past h4).trans rfl)))
def TermsAt (A : Adr) (H : Hp) (t : Addr) (m : M) : Prop := ∃ dx, H t = some (.ins A.CT dx (termF m))
theorem TermsAt.same {A : Adr} {H H' : Hp} {t : Addr} {m : M} (h : TermsAt A H t m) (k : Same H H') : TermsAt A H' t m := let ⟨dx, e⟩ := h; ⟨dx, k _ _ e⟩
theorem TermsAt.at {A : Adr} {H H' : Hp} {t : Addr} {m : M} (h : TermsAt A H t m) (k : ∀ o, H t = some o → H' t = some o) : TermsAt A H' t m := let ⟨dx, e⟩ := h; ⟨dx, k _ e⟩
/-- where the parts of a join stand -/
structure JA where
  j : Addr
  dj : Addr
  t : Addr
  pm : Addr
  pt : Addr
  pk : Addr
  pv : Addr
  k : Bool → Addr
  ra : Bool → List Addr
  va : List Addr
def joinF (J : JA) (aside : Nat) : List (Str × V) := [("terms", .ref J.t), ("marks", .ref J.pm), ("taken", .ref J.pt), ("kept", .ref J.pk), ("aside", nv aside), ("versions", .ref J.pv)]
section
variable (J : JA) (n : Nat)
theorem joinF_terms : (joinF J n).lookup ("terms" : Str) = some (.ref J.t) := lk_here
theorem joinF_marks : (joinF J n).lookup ("marks" : Str) = some (.ref J.pm) := (lk_past (by decide +kernel)).trans lk_here
theorem joinF_taken : (joinF J n).lookup ("taken" : Str) = some (.ref J.pt) := (lk_past (by decide +kernel)).trans ((lk_past (by decide +kernel)).trans lk_here)
theorem joinF_kept : (joinF J n).lookup ("kept" : Str) = some (.ref J.pk) := (lk_past (by decide +kernel)).trans ((lk_past (by decide +kernel)).trans ((lk_past (by decide +kernel)).trans lk_here))
theorem joinF_aside : (joinF J n).lookup ("aside" : Str) = some (nv n) := (lk_past (by decide +kernel)).trans ((lk_past (by decide +kernel)).trans ((lk_past (by decide +kernel)).trans ((lk_past (by decide +kernel)).trans lk_here)))
theorem joinF_versions : (joinF J n).lookup ("versions" : Str) = some (.ref J.pv) := (lk_past (by decide +kernel)).trans ((lk_past (by decide +kernel)).trans ((lk_past (by decide +kernel)).trans ((lk_past (by decide +kernel)).trans ((lk_past (by decide +kernel)).trans lk_here))))
theorem joinF_no {x : Str} (h1 : (x == ("terms" : Str)) = false) (h2 : (x == ("marks" : Str)) = false) (h3 : (x == ("taken" : Str)) = false) (h4 : (x == ("kept" : Str)) = false) (h5 : (x == ("aside" : Str)) = false) (h6 : (x == ("versions" : Str)) = false) : (joinF J n).lookup x = none :=
  (lk_past h1).trans ((lk_past h2).trans ((lk_past h3).trans ((lk_past h4).trans ((lk_past h5).trans ((lk_past h6).trans rfl)))))
theorem joinF_put (k : Nat) : putF "aside" (nv k) (joinF J n) = joinF J k := by
  exact (put_past (by decide +kernel)).trans (congrArg _ ((put_past (by decide +kernel)).trans (congrArg _ ((put_past (by decide +kernel)).trans (congrArg _ ((put_past (by decide +kernel)).trans (congrArg _ put_here)))))))
end
def both (f : Bool → Nat) : List V := [nv (f false), nv (f true)]
def refs (as : List Addr) : List V := as.map V.ref
structure JoinAt (A : Adr) (H : Hp) (J : JA) (m : M) : Prop where
  kind : m.kind ≤ 3
  hj : H J.j = some (.ins A.CJ J.dj (joinF J m.aside))
  ht : TermsAt A H J.t m
  hm : H J.pm = some (.lst (both m.mark))
  hn : H J.pt = some (.lst (both m.taken))
  hk : H J.pk = some (.lst [.ref (J.k false), .ref (J.k true)])
  hl : ∀ s, H (J.k s) = some (.lst (refs (J.ra s)))
  hr : ∀ s, RowsAt A H (J.ra s) (m.kept s)
  hv : H J.pv = some (.lst (refs J.va))
  hw : RowsAt A H J.va m.vers
  nl : [J.pm, J.pt, J.pk, J.pv, J.k false, J.k true].Nodup
  nr : (J.ra false ++ (J.ra true ++ J.va)).Nodup
/-- what belongs to a join -/
def Ft (J : JA) (b : Addr) : Prop := b = J.j ∨ b = J.t ∨ b = J.pm ∨ b = J.pt ∨ b = J.pk ∨ b = J.pv ∨ (∃ s, b = J.k s) ∨ (∃ s, b ∈ J.ra s) ∨ b ∈ J.va
section
variable {A : Adr} {H H' : Hp} {J : JA} {m : M} {p : Addr}
theorem Ft.j : Ft J J.j := .inl rfl
theorem Ft.t : Ft J J.t := .inr (.inl rfl)
theorem Ft.pm : Ft J J.pm := .inr (.inr (.inl rfl))
theorem Ft.pt : Ft J J.pt := .inr (.inr (.inr (.inl rfl)))
theorem Ft.pk : Ft J J.pk := .inr (.inr (.inr (.inr (.inl rfl))))
theorem Ft.pv : Ft J J.pv := .inr (.inr (.inr (.inr (.inr (.inl rfl)))))
theorem Ft.k (s : Bool) : Ft J (J.k s) := .inr (.inr (.inr (.inr (.inr (.inr (.inl ⟨s, rfl⟩))))))
theorem Ft.ra {s : Bool} {a : Addr} (h : a ∈ J.ra s) : Ft J a := .inr (.inr (.inr (.inr (.inr (.inr (.inr (.inl ⟨s, h⟩)))))))
theorem Ft.va {a : Addr} (h : a ∈ J.va) : Ft J a := .inr (.inr (.inr (.inr (.inr (.inr (.inr (.inr h)))))))
theorem JoinAt.at (h : JoinAt A H J m) (k : ∀ b, Ft J b → ∀ o, H b = some o → H' b = some o) : JoinAt A H' J m :=
  ⟨h.kind, k _ Ft.j _ h.hj, h.ht.at (k _ Ft.t), k _ Ft.pm _ h.hm, k _ Ft.pt _ h.hn, k _ Ft.pk _ h.hk, fun s => k _ (Ft.k s) _ (h.hl s), fun s => (h.hr s).at fun a q => k a (Ft.ra q), k _ Ft.pv _ h.hv, h.hw.at fun a q => k a (Ft.va q), h.nl, h.nr⟩
theorem JoinAt.same (h : JoinAt A H J m) (k : Same H H') : JoinAt A H' J m := h.at fun b _ o e => k b o e
theorem JoinAt.there (h : JoinAt A H J m) {b : Addr} (f : Ft J b) : ∃ o, H b = some o := by
  rcases f with rfl | rfl | rfl | rfl | rfl | rfl | ⟨s, rfl⟩ | ⟨s, hb⟩ | hb
  · exact ⟨_, h.hj⟩
  · obtain ⟨d, e⟩ := h.ht
    exact ⟨_, e⟩
  · exact ⟨_, h.hm⟩
  · exact ⟨_, h.hn⟩
  · exact ⟨_, h.hk⟩
  · exact ⟨_, h.hv⟩
  · exact ⟨_, h.hl s⟩
  · obtain ⟨_, _, d, e⟩ := (h.hr s).mem hb
    exact ⟨_, e⟩
  · obtain ⟨_, _, d, e⟩ := h.hw.mem hb
    exact ⟨_, e⟩
theorem JoinAt.notFt (h : JoinAt A H J m) {b : Addr} (n : H b = none) : ¬ Ft J b := fun f => by
  obtain ⟨o, e⟩ := h.there f
  rw [n] at e
  cases e
/-- each part of another sort than these -/
theorem JoinAt.kinds (h : JoinAt A H J m) {b : Addr} (f : Ft J b) : (∃ xs, H b = some (.lst xs)) ∨ (∃ C dx fs, H b = some (.ins C dx fs) ∧ (fs.lookup ("join" : Str) = none)) := by
  rcases f with rfl | rfl | rfl | rfl | rfl | rfl | ⟨s, rfl⟩ | ⟨s, hb⟩ | hb
  · exact .inr ⟨_, _, _, h.hj, joinF_no J _ (by decide +kernel) (by decide +kernel) (by decide +kernel) (by decide +kernel) (by decide +kernel) (by decide +kernel)⟩
  · obtain ⟨d, e⟩ := h.ht
    exact .inr ⟨_, _, _, e, termF_no m (by decide +kernel) (by decide +kernel) (by decide +kernel) (by decide +kernel)⟩
  · exact .inl ⟨_, h.hm⟩
  · exact .inl ⟨_, h.hn⟩
  · exact .inl ⟨_, h.hk⟩
  · exact .inl ⟨_, h.hv⟩
  · exact .inl ⟨_, h.hl s⟩
  · obtain ⟨_, _, d, e⟩ := (h.hr s).mem hb
    exact .inr ⟨_, _, _, e, (lk_past (by decide +kernel)).trans ((lk_past (by decide +kernel)).trans ((lk_past (by decide +kernel)).trans ((lk_past (by decide +kernel)).trans rfl)))⟩
  · obtain ⟨_, _, d, e⟩ := h.hw.mem hb
    exact .inr ⟨_, _, _, e, (lk_past (by decide +kernel)).trans ((lk_past (by decide +kernel)).trans ((lk_past (by decide +kernel)).trans ((lk_past (by decide +kernel)).trans rfl)))⟩
theorem JoinAt.noTup (h : JoinAt A H J m) {b : Addr} {xs : List V} (e : H b = some (.tup xs)) : ¬ Ft J b := fun f => by
  rcases h.kinds f with ⟨ys, e2⟩ | ⟨C, dx, fs, e2, _⟩
  · rw [e] at e2; cases e2
  · rw [e] at e2; cases e2
theorem JoinAt.ks (h : JoinAt A H J m) (s : Bool) : H (J.k s) = some (.lst (refs (J.ra s))) := h.hl s
theorem JoinAt.tlst (h : JoinAt A H J m) {xs : List V} (hp : H p = some (.lst xs)) : J.t ≠ p := let ⟨_, e⟩ := h.ht; ne_of e hp (by intro z; cases z)
theorem JoinAt.jlst (h : JoinAt A H J m) {xs : List V} (hp : H p = some (.lst xs)) : J.j ≠ p := ne_of h.hj hp (by intro z; cases z)
/-- the six lists are six -/
theorem JoinAt.six (h : JoinAt A H J m) : (J.pm ≠ J.pt ∧ J.pm ≠ J.pk ∧ J.pm ≠ J.pv ∧ ∀ s, J.pm ≠ J.k s) ∧ (J.pt ≠ J.pk ∧ J.pt ≠ J.pv ∧ ∀ s, J.pt ≠ J.k s) ∧ (J.pk ≠ J.pv ∧ ∀ s, J.pk ≠ J.k s) ∧ (∀ s, J.pv ≠ J.k s) ∧ J.k false ≠ J.k true := by
  have n := h.nl
  simp only [List.nodup_cons, List.mem_cons, not_or, List.not_mem_nil, not_false_eq_true, List.nodup_nil, and_true] at n
  obtain ⟨⟨a1, a2, a3, a4, a5⟩, ⟨b1, b2, b3, b4⟩, ⟨c1, c2, c3⟩, ⟨d1, d2⟩, e1⟩ := n
  exact ⟨⟨a1, a2, a3, fun s => by cases s <;> assumption⟩, ⟨b1, b2, fun s => by cases s <;> assumption⟩, ⟨c1, fun s => by cases s <;> assumption⟩, fun s => by cases s <;> assumption, e1⟩
theorem JoinAt.kne (h : JoinAt A H J m) {s s' : Bool} (n : s ≠ s') : J.k s ≠ J.k s' := by
  have e := h.six.2.2.2.2
  cases s <;> cases s'
  · exact absurd rfl n
  · exact e
  · exact e.symm
  · exact absurd rfl n
/-- the marks are set -/
theorem JoinAt.setMarks (h : JoinAt A H J m) (f : Bool → Nat) : JoinAt A (upd H J.pm (.lst (both f))) J { m with mark := f } := by
  obtain ⟨⟨a1, a2, a3, a4⟩, _⟩ := h.six
  refine ⟨h.kind, ?_, ?_, upd_same, ?_, ?_, fun s => ?_, fun s => ?_, ?_, ?_, h.nl, h.nr⟩
  · rw [upd_ne (h.jlst h.hm)]; exact h.hj
  · obtain ⟨d, e⟩ := h.ht
    exact ⟨d, by rw [upd_ne (h.tlst h.hm)]; exact e⟩
  · rw [upd_ne a1.symm]; exact h.hn
  · rw [upd_ne a2.symm]; exact h.hk
  · rw [upd_ne (a4 s).symm]; exact h.hl s
  · exact (h.hr s).upd ((h.hr s).ne h.hm)
  · rw [upd_ne a3.symm]; exact h.hv
  · exact h.hw.upd (h.hw.ne h.hm)
theorem JoinAt.setTaken (h : JoinAt A H J m) (f : Bool → Nat) : JoinAt A (upd H J.pt (.lst (both f))) J { m with taken := f } := by
  obtain ⟨⟨a1, a2, a3, a4⟩, ⟨b1, b2, b3⟩, _⟩ := h.six
  refine ⟨h.kind, ?_, ?_, ?_, upd_same, ?_, fun s => ?_, fun s => ?_, ?_, ?_, h.nl, h.nr⟩
  · rw [upd_ne (h.jlst h.hn)]; exact h.hj
  · obtain ⟨d, e⟩ := h.ht
    exact ⟨d, by rw [upd_ne (h.tlst h.hn)]; exact e⟩
  · rw [upd_ne a1]; exact h.hm
  · rw [upd_ne b1.symm]; exact h.hk
  · rw [upd_ne (b3 s).symm]; exact h.hl s
  · exact (h.hr s).upd ((h.hr s).ne h.hn)
  · rw [upd_ne b2.symm]; exact h.hv
  · exact h.hw.upd (h.hw.ne h.hn)
theorem JoinAt.setAside (h : JoinAt A H J m) (n : Nat) : JoinAt A (upd H J.j (.ins A.CJ J.dj (joinF J n))) J { m with aside := n } := by
  have l : ∀ {p : Addr} {xs : List V}, H p = some (.lst xs) → p ≠ J.j := fun e => (h.jlst e).symm
  have rw' : ∀ {a : Addr} {r : R}, RowAt A H a r → a ≠ J.j := fun {a r} q z => by
    obtain ⟨d, e⟩ := q
    rw [z, h.hj] at e
    injection e with e
    injection e with _ _ e3
    have e4 := congrArg (List.lookup ("terms" : Str)) e3
    rw [joinF_terms] at e4
    have e5 : (rowF r).lookup ("terms" : Str) = none := (lk_past (by decide +kernel)).trans ((lk_past (by decide +kernel)).trans ((lk_past (by decide +kernel)).trans ((lk_past (by decide +kernel)).trans rfl)))
    rw [e5] at e4
    cases e4
  refine ⟨h.kind, upd_same, ?_, ?_, ?_, ?_, fun s => ?_, fun s => ?_, ?_, ?_, h.nl, h.nr⟩
  · obtain ⟨d, e⟩ := h.ht
    refine ⟨d, ?_⟩
    rw [upd_ne (ne_of e h.hj fun z => ?_)]
    · exact e
    · injection z with _ _ e3
      have e4 := congrArg (List.lookup ("terms" : Str)) e3
      rw [joinF_terms, termF_no m (by decide +kernel) (by decide +kernel) (by decide +kernel) (by decide +kernel)] at e4
      cases e4
  · rw [upd_ne (l h.hm)]; exact h.hm
  · rw [upd_ne (l h.hn)]; exact h.hn
  · rw [upd_ne (l h.hk)]; exact h.hk
  · rw [upd_ne (l (h.hl s))]; exact h.hl s
  · exact (h.hr s).upd fun a q => let ⟨_, _, z⟩ := (h.hr s).mem q; rw' z
  · rw [upd_ne (l h.hv)]; exact h.hv
  · exact h.hw.upd fun a q => let ⟨_, _, z⟩ := h.hw.mem q; rw' z
end
end JW
/-! ### What the top has written -/
namespace JW
open PySem PySem.Spec PyProof.Rows L2
open JM (M)
def top (i : Nat) : Stmt := PySem.Challenge.pw_joinedstreams_s01_answers.main.body.getD i (.Pass ⟨0, 0, 0, 0⟩)
abbrev sAsk : Stmt := top 7
abbrev sRowI : Stmt := inClass (top 14) 0
abbrev sShown : Stmt := inClass (top 14) 1
abbrev sOther : Stmt := top 15
abbrev sAlone : Stmt := top 16
abbrev sChanges : Stmt := top 17
abbrev sRows : Stmt := top 18
abbrev sNewer : Stmt := top 20
abbrev sHolding : Stmt := top 21
abbrev sEnd : Stmt := top 22
abbrev sAsked : Stmt := top 23
abbrev sKept : Stmt := top 24
abbrev sTurn : Stmt := top 26
abbrev sJoin (i : Nat) : Stmt := inClass (top 27) i
abbrev sTerms (i : Nat) : Stmt := inClass (top 32) i
abbrev sNew : Stmt := top 33
abbrev sRead : Stmt := top 37
abbrev sToldBy : Stmt := top 38
abbrev sLine (i : Nat) : Stmt := inClass (top 39) i
abbrev sAns : Stmt := top 40
/-- a whole number of the module -/
def IntC (mg : Str → Option Value) (x : Str) (n : Int) : Prop := ∃ t, mg x = some (.int n t)
theorem pe_ic {X : Cx} {x : Str} {n : Int} {pos : Pos} (c : IntC X.mg x n) (hg : Gl X x) (hd : (x == ("__debug__" : Str)) = false := by decide) : PE X (.Name x pos) (tC (.int n)) := by
  obtain ⟨t, h⟩ := c
  exact pe_glob hg h ⟨t, rfl⟩ hd
/-- the tables -/
def TolC (K : PySem.W.Frag) (mg : Str → Option Value) : Prop := ∃ b b0 b1 b2 b3 : Addr, mg "TOLD_ALONE" = some (.ref b) ∧ ∀ H : Hp, SqT K H b [.ref b0, .ref b1, .ref b2, .ref b3] ∧ SqT K H b0 [] ∧ SqT K H b1 [.int 0] ∧ SqT K H b2 [.int 0, .int 1] ∧ SqT K H b3 []
def BelC (K : PySem.W.Frag) (mg : Str → Option Value) : Prop := ∃ b : Addr, mg "BELONG" = some (.ref b) ∧ ∀ H : Hp, SqT K H b [.int 4, .int 2, .int 2, .int 1, .int 1, .int 0, .int 0, .int 0, .int 2]
structure Txt (K : PySem.W.Frag) (mg : Str → Option Value) (A : Adr) : Prop where
  low : PySem.LowX.LowTxt K mg A.CF A.fI
  NO_SORT : IntC mg "NO_SORT" (-1)
  BEYOND : IntC mg "BEYOND" (-2)
  NOT_GRANTED : IntC mg "NOT_GRANTED" (-3)
  OTHER_SORT : IntC mg "OTHER_SORT" (-4)
  GONE_BY : IntC mg "GONE_BY" (-5)
  LEFT : IntC mg "LEFT" 0
  RIGHT : IntC mg "RIGHT" 1
  TOLD : IntC mg "TOLD" 1
  TAKEN_BACK : IntC mg "TAKEN_BACK" 0
  MOST_TIME : IntC mg "MOST_TIME" 1000000
  MOMENT : IntC mg "MOMENT" 3
  MOST_FAR : IntC mg "MOST_FAR" 100000
  BEGIN : IntC mg "BEGIN" 0
  tol : TolC K mg
  bel : BelC K mg
  bInt : mg "int" = none
  bLen : mg "len" = none
  bMin : mg "min" = none
  bMax : mg "max" = none
  bAny : mg "any" = none
  bSorted : mg "sorted" = none
  clR : Cls K A.CR
  clJ : Cls K A.CJ
  clT : Cls K A.CT
  clL : Cls K A.CL
  nNumber : NoAttr K A.CR "number"
  nKey : NoAttr K A.CR "key"
  nTime : NoAttr K A.CR "time"
  nMet : NoAttr K A.CR "has_met"
  nTerms : NoAttr K A.CJ "terms"
  nMarks : NoAttr K A.CJ "marks"
  nTaken : NoAttr K A.CJ "taken"
  nKept : NoAttr K A.CJ "kept"
  nAside : NoAttr K A.CJ "aside"
  nVersions : NoAttr K A.CJ "versions"
  nKind : NoAttr K A.CT "kind"
  nAhead : NoAttr K A.CT "ahead"
  nAfter : NoAttr K A.CT "after"
  nEager : NoAttr K A.CT "eager"
  nJoin : NoAttr K A.CL "join"
  iRow : IniOk K mg "Row" A.CR "Row.__init__" sRowI
  iJoin : IniOk K mg "Join" A.CJ "Join.__init__" (sJoin 0)
  iTerms : IniOk K mg "Terms" A.CT "Terms.__init__" (sTerms 0)
  iLine : IniOk K mg "Line" A.CL "Line.__init__" (sLine 0)
  dAsk : DefOk K mg "ask" sAsk
  dOther : DefOk K mg "other_side" sOther
  dAlone : DefOk K mg "alone" sAlone
  dChanges : DefOk K mg "changes_told" sChanges
  dRows : DefOk K mg "rows_told" sRows
  dNewer : DefOk K mg "is_newer" sNewer
  dHolding : DefOk K mg "holding" sHolding
  dEnd : DefOk K mg "end_of" sEnd
  dAsked : DefOk K mg "is_asked" sAsked
  dKept : DefOk K mg "is_kept" sKept
  dTurn : DefOk K mg "turn_of" sTurn
  dNew : DefOk K mg "new_terms" sNew
  dRead : DefOk K mg "read_calls" sRead
  dToldBy : DefOk K mg "told_by" sToldBy
  mShown : MetOk K A.CR "shown" "Row.shown" sShown
  mPair : MetOk K A.CJ "pair" "Join.pair" (sJoin 1)
  mMeetAll : MetOk K A.CJ "meet_all" "Join.meet_all" (sJoin 2)
  mComeMeet : MetOk K A.CJ "come_to_meet" "Join.come_to_meet" (sJoin 3)
  mToldAt : MetOk K A.CJ "told_at" "Join.told_at" (sJoin 4)
  mMoment : MetOk K A.CJ "come_at_moment" "Join.come_at_moment" (sJoin 5)
  mCome : MetOk K A.CJ "come" "Join.come" (sJoin 6)
  mGoOf : MetOk K A.CJ "go_of" "Join.go_of" (sJoin 7)
  mEndW : MetOk K A.CJ "end_waiting" "Join.end_waiting" (sJoin 8)
  mRaise : MetOk K A.CJ "raise_mark" "Join.raise_mark" (sJoin 9)
  mShow : MetOk K A.CJ "show" "Join.show" (sJoin 10)
  mCounts : MetOk K A.CJ "counts" "Join.counts" (sJoin 11)
  mAt : MetOk K A.CJ "at" "Join.at" (sJoin 12)
  mIsMoment : MetOk K A.CT "is_moment" "Terms.is_moment" (sTerms 1)
  mTellsAlone : MetOk K A.CT "tells_alone" "Terms.tells_alone" (sTerms 2)
  mOnce : MetOk K A.CT "tells_at_once" "Terms.tells_at_once" (sTerms 3)
  mLate : MetOk K A.CT "tells_late" "Terms.tells_late" (sTerms 4)
  mMeet : MetOk K A.CT "meet" "Terms.meet" (sTerms 5)
  mWanted : MetOk K A.CT "is_wanted" "Terms.is_wanted" (sTerms 6)
  mAnswer : MetOk K A.CL "answer" "Line.answer" (sLine 1)
  mAnswerAll : MetOk K A.CL "answer_all" "Line.answer_all" (sLine 2)

/-! ### Promises of the small defs -/
/-- an error with this number leaves -/
def Rais (A : Adr) (H : Hp) (E : XK) (n : Int) : Prop := ∀ (H' : Hp) (d : Addr), Same H H' → H' d = some (.xd [(("told" : Str), .int n)]) → E (.ref A.CF) (some d) H'
def spAsk (A : Adr) : Sp := fun vs H Q E => ∃ (good : Bool) (n : Int), vs = [.bl good, .int n] ∧ (good = true → Q .non H) ∧ (good = false → Rais A H E n)
def spRowI (A : Adr) : Sp := fun vs H Q _ => ∃ (p dx : Addr) (i k t : Nat), vs = [.ref p, nv i, nv k, nv t] ∧ H p = some (.ins A.CR dx []) ∧ Q .non (upd H p (.ins A.CR dx (rowF ⟨i, k, t, false⟩)))
def rowI (r : R) : List Int := [(r.id : Nat), (r.key : Nat), (r.t : Nat), if r.met = true then 1 else 0]
def spShown (A : Adr) : Sp := fun vs H Q _ => ∃ (a : Addr) (r : R), vs = [.ref a] ∧ RowAt A H a r ∧ ∀ p, H p = none → Q (.ref p) (upd H p (.lst ((rowI r).map V.int)))
def spOther : Sp := fun vs H Q _ => ∃ s : Bool, vs = [.int (sv s)] ∧ Q (.int (sv (!s))) H
def spAlone (A : Adr) : Sp := fun vs H Q _ => ∃ (b s : Bool) (a : Addr) (r : R), vs = [.int (sv b), .int (sv s), .ref a] ∧ RowAt A H a r ∧ ∀ p, H p = none → Q (.ref p) (upd H p (.tup ((chI (JM.chAlone b s r)).map V.int)))
def spChanges : Sp := fun vs H Q _ => ∃ (p : Addr) (as : List Addr) (cs : List Chg), vs = [.ref p] ∧ H p = some (.lst (refs as)) ∧ ChAt H as cs ∧ cs.length ≤ 100000 ∧
  ∀ (H' : Hp) (q : Addr), Same H H' → H q = none → H' q = some (.lst ((Hs06.ints (Hs06.changes cs)).map V.int)) → Q (.ref q) H'
def spRows (A : Adr) : Sp := fun vs H Q _ => ∃ (p : Addr) (as : List Addr) (rs : List R), vs = [.ref p] ∧ H p = some (.lst (refs as)) ∧ RowsAt A H as rs ∧ rs.length ≤ 100000 ∧
  ∀ (H' : Hp) (q : Addr), Same H H' → H q = none → H' q = some (.lst ((Hs06.ints (Hs06.rows rs)).map V.int)) → Q (.ref q) H'

theorem side_left (s : Bool) : decide (V.int (sv s) = V.int 0) = !s := by cases s <;> rfl
theorem side_right (s : Bool) : decide (V.int (sv s) = V.int 1) = s := by cases s <;> rfl
theorem changes_ints (cs : List Chg) : Hs06.ints (Hs06.changes cs) = ((cs.length : Nat) : Int) :: cs.flatMap chI := by
  unfold Hs06.ints Hs06.changes
  rw [List.map_cons, List.map_flatMap]
  refine congrArg (List.cons _) (congrArg (fun f => List.flatMap f cs) (funext fun c => ?_))
  unfold chI
  cases c.1 <;> rfl
theorem rows_ints (rs : List R) : Hs06.ints (Hs06.rows rs) = ((rs.length : Nat) : Int) :: rs.flatMap rowI := by
  unfold Hs06.ints Hs06.rows
  rw [List.map_cons, List.map_flatMap]
  refine congrArg (List.cons _) (congrArg (fun f => List.flatMap f rs) (funext fun r => ?_))
  unfold rowI
  cases r.met <;> rfl
theorem line_of' {n : Nat} (h : n ≤ 1000000) : n ≤ sizeLine := Nat.le_trans h (by decide)
theorem line_lt' {n : Nat} (h : n ≤ 1000000) : n < sizeLine := Nat.lt_of_le_of_lt h (by decide)
section
variable {P : Program} {w : World} {K : PySem.W.Frag} {mg : Str → Option Value} {base : Heap} {A : Adr}
theorem scAsk : FnScope ["good", "told"] ["good", "told"] (defScope sAsk) := ⟨rfl, rfl, rfl, by decide +kernel, rfl, by decide +kernel, by decide +kernel⟩
theorem ok_ask (T : Txt K mg A) : Cal P w K mg base (L2.CX P w) 3 "ask" (spAsk A) := by
  refine calX (k := 2) T.dAsk (fun _ _ _ _ _ _ us hl => match us, hl with | [_, _], _ => rfl) scAsk (fun vs H Q E h => ?_) (fun f cdv Ar outer s H vs Q E hr h => ?_)
  rotate_left
  · refine ⟨_, pss_one (ps_if (pt_not (pt_val (pv 0))) (pss_one (ps_raiseLow rfl T.low hr (takes_of rfl rfl rfl rfl) (by exact pa_cons (pv 1) pa_nil))) pss_nil), ?_⟩
    obtain ⟨good, n, rfl, h1, h2⟩ := h
    refine ⟨_, rfl, _, rfl, ?_⟩
    cases good with
    | true => exact iteF (h1 rfl)
    | false => exact iteT ⟨_, rfl, _, rfl, fun d hd => h2 rfl _ d (same_upd hd) upd_same⟩
  · obtain ⟨good, n, rfl, _⟩ := h
    rfl
theorem scRowI : FnScope ["self", "number", "key", "time"] ["self", "number", "key", "time"] (defScope sRowI) := ⟨rfl, rfl, rfl, by decide +kernel, rfl, by decide +kernel, by decide +kernel⟩
theorem rowF_new (i k t : Nat) : putF "has_met" (.bl false) (putF "time" (nv t) (putF "key" (nv k) (putF "number" (nv i) []))) = rowF ⟨i, k, t, false⟩ := by
  have e1 : putF "number" (nv i) [] = ([("number", nv i)] : List (Str × V)) := rfl
  have e2 : putF "key" (nv k) ([("number", nv i)] : List (Str × V)) = ([("number", nv i), ("key", nv k)] : List (Str × V)) := (put_past (by decide +kernel)).trans rfl
  have e3 : putF "time" (nv t) ([("number", nv i), ("key", nv k)] : List (Str × V)) = ([("number", nv i), ("key", nv k), ("time", nv t)] : List (Str × V)) := (put_past (by decide +kernel)).trans (congrArg _ ((put_past (by decide +kernel)).trans rfl))
  have e4 : putF "has_met" (.bl false) ([("number", nv i), ("key", nv k), ("time", nv t)] : List (Str × V)) = ([("number", nv i), ("key", nv k), ("time", nv t), ("has_met", .bl false)] : List (Str × V)) :=
    (put_past (by decide +kernel)).trans (congrArg _ ((put_past (by decide +kernel)).trans (congrArg _ ((put_past (by decide +kernel)).trans rfl))))
  rw [e1, e2, e3, e4]
  rfl
theorem ok_rowI (T : Txt K mg A) : Mak P w K mg base CX0 3 "Row" A.CR (spRowI A) := by
  refine mak0 (k := 2) T.iRow (fun _ _ _ _ _ _ us hl => match us, hl with | [_, _, _, _], _ => rfl) scRowI (fun vs H Q E h => ?_) (fun f cdv Ar outer s H vs Q E hr h => ?_)
  rotate_left
  · refine ⟨_, pss_cons (ps_fld (pv 0) (pv 1) rfl) (pss_cons (ps_fld (pv 0) (pv 2) rfl) (pss_cons (ps_fld (pv 0) (pv 3) rfl) (pss_one (ps_fld (pv 0) pe_bl rfl)))), ?_⟩
    obtain ⟨p, dx, i, k, t, rfl, hp, q⟩ := h
    refine ⟨_, rfl, _, rfl, p, A.CR, dx, [], rfl, hp, T.clR, T.nNumber, (by show 0 < 1000; decide), ?_⟩
    refine ⟨_, rfl, _, rfl, p, A.CR, dx, _, rfl, upd_same, T.clR, T.nKey, (by show 1 < 1000; decide), ?_⟩
    refine ⟨_, rfl, _, rfl, p, A.CR, dx, _, rfl, upd_same, T.clR, T.nTime, Nat.lt_of_le_of_lt (length_putF _ _ _) (by show 1 + 1 < 1000; decide), ?_⟩
    refine ⟨_, rfl, p, A.CR, dx, _, rfl, upd_same, T.clR, T.nMet, Nat.lt_of_le_of_lt (length_putF _ _ _) (Nat.lt_of_le_of_lt (Nat.succ_le_succ (length_putF _ _ _)) (by show 1 + 1 + 1 < 1000; decide)), ?_⟩
    show Q .non (upd (upd (upd (upd H p _) p _) p _) p _)
    rw [upd_upd, upd_upd, upd_upd]
    have e := rowF_new i k t
    rw [← e] at q
    exact q
  · obtain ⟨p, dx, i, k, t, rfl, _⟩ := h
    rfl
theorem scShown : FnScope ["self"] ["self"] (defScope sShown) := ⟨rfl, rfl, rfl, by decide +kernel, rfl, by decide +kernel, by decide +kernel⟩
theorem ok_shown (T : Txt K mg A) : Met P w K mg base CX0 3 A.CR "shown" (spShown A) := by
  refine met0 (k := 2) T.clR T.mShown (fun _ _ _ _ _ _ us hl => match us, hl with | [_], _ => rfl) scShown (fun vs H Q E h => ?_) (fun f cdv Ar outer s H vs Q E hr h => ?_)
  rotate_left
  · refine ⟨_, pss_one (ps_ret (pe_lst (pa_cons (pe_fld (pv 0) rfl) (pa_cons (pe_fld (pv 0) rfl) (pa_cons (pe_fld (pv 0) rfl) (pa_cons (pe_callTy call_int1 (by rfl) T.bInt (by decide +kernel) (pa_cons (pe_fld (pv 0) rfl) pa_nil)) pa_nil)))))), ?_⟩
    obtain ⟨a, r, rfl, ⟨dx, ha⟩, q⟩ := h
    refine ⟨_, rfl, a, A.CR, dx, _, _, rfl, ha, T.clR, T.nNumber, rowF_number r, ?_⟩
    refine ⟨_, rfl, a, A.CR, dx, _, _, rfl, ha, T.clR, T.nKey, rowF_key r, ?_⟩
    refine ⟨_, rfl, a, A.CR, dx, _, _, rfl, ha, T.clR, T.nTime, rowF_time r, ?_⟩
    refine ⟨_, rfl, a, A.CR, dx, _, _, rfl, ha, T.clR, T.nMet, rowF_met r, ?_⟩
    refine .inr ⟨_, rfl, (by show 4 ≤ sizeLine; decide), fun p hp => ?_⟩
    exact q p hp
  · obtain ⟨a, r, rfl, _⟩ := h
    rfl
theorem scOther : FnScope ["side"] ["side"] (defScope sOther) := ⟨rfl, rfl, rfl, by decide +kernel, rfl, by decide +kernel, by decide +kernel⟩
theorem ok_other (T : Txt K mg A) : Cal P w K mg base CX0 3 "other_side" spOther := by
  refine cal0 (k := 2) T.dOther (fun _ _ _ _ _ _ us hl => match us, hl with | [_], _ => rfl) scOther (fun vs H Q E h => ?_) (fun f cdv Ar outer s H vs Q E hr h => ?_)
  rotate_left
  · refine ⟨_, pss_one (ps_ret (pe_op op_sub pe_int (pv 0))), ?_⟩
    obtain ⟨s, rfl, q⟩ := h
    refine ⟨_, rfl, _, _, rfl, rfl, ?_⟩
    have e : (1 : Int) - sv s = sv (!s) := by cases s <;> rfl
    show Q (.int (1 - sv s)) H
    rw [e]
    exact q
  · obtain ⟨s, rfl, _⟩ := h
    rfl
theorem scAlone : FnScope ["word", "side", "row"] ["word", "side", "row"] (defScope sAlone) := ⟨rfl, rfl, rfl, by decide +kernel, rfl, by decide +kernel, by decide +kernel⟩
theorem ok_alone (T : Txt K mg A) : Cal P w K mg base CX0 3 "alone" (spAlone A) := by
  refine cal0 (k := 2) T.dAlone (fun _ _ _ _ _ _ us hl => match us, hl with | [_, _, _], _ => rfl) scAlone (fun vs H Q E h => ?_) (fun f cdv Ar outer s H vs Q E hr h => ?_)
  rotate_left
  · refine ⟨_, pss_cons (ps_if (pt_cmpR op_eq (pv 1) (pe_ic T.LEFT rfl) (nomark _)) (pss_one (ps_ret (pe_tup (pa_cons (pv 0) (pa_cons (pe_fld (pv 2) rfl) (pa_cons pe_int pa_nil)))))) pss_nil)
      (pss_one (ps_ret (pe_tup (pa_cons (pv 0) (pa_cons pe_int (pa_cons (pe_fld (pv 2) rfl) pa_nil)))))), ?_⟩
    obtain ⟨b, s, a, r, rfl, ⟨dx, ha⟩, q⟩ := h
    refine ⟨_, rfl, rfl, _, rfl, ?_⟩
    rw [side_left]
    have w : (if b = true then (1 : Int) else 0) = sv b := rfl
    cases s with
    | false =>
      refine iteT ⟨_, rfl, _, rfl, a, A.CR, dx, _, _, rfl, ha, T.clR, T.nNumber, rowF_number r, (by show 3 ≤ sizeLine; decide), fun p hp => ?_⟩
      exact q p hp
    | true =>
      refine iteF ⟨_, rfl, _, rfl, a, A.CR, dx, _, _, rfl, ha, T.clR, T.nNumber, rowF_number r, (by show 3 ≤ sizeLine; decide), fun p hp => ?_⟩
      exact q p hp
  · obtain ⟨b, s, a, r, rfl, _⟩ := h
    rfl
theorem scChanges : FnScope ["changes", "told", "word", "left", "right"] ["changes"] (defScope sChanges) := ⟨rfl, rfl, rfl, by decide +kernel, rfl, by decide +kernel, by decide +kernel⟩
theorem chI_len (c : Chg) : (chI c).length ≤ 3 := Nat.le_refl 3
theorem ok_changes (T : Txt K mg A) : Cal P w K mg base CX0 3 "changes_told" spChanges := by
  refine cal0 (k := 2) T.dChanges (fun _ _ _ _ _ _ us hl => match us, hl with | [_], _ => rfl) scChanges (fun vs H Q E h => ?_) (fun f cdv Ar outer s H vs Q E hr h => ?_)
  rotate_left
  · refine ⟨_, pss_cons (ps_set (i := 1) scChanges.nd rfl (.inl rfl) (pe_lst (pa_cons (pe_callB call_len_seq (by rfl) T.bLen PySem.boot_len (pa_cons (pv 0) pa_nil)) pa_nil)))
      (pss_cons (ps_for PassesOwn.never rfl (pi_list (pv 0)) (pg_tup rfl (pgs_cons (pg_name (i := 2) scChanges.nd rfl (.inl rfl)) (pgs_cons (pg_name (i := 3) scChanges.nd rfl (.inl rfl)) (pgs_cons (pg_name (i := 4) scChanges.nd rfl (.inl rfl)) pgs_nil))))
        (pss_one (ps_expr (pe_bm PySem.F.plainAttrs_list PySem.F.slot_list_extend PySem.F.type_list_extend mt_extend (pv 1) (pa_cons (pe_lst (pa_cons (pv 2) (pa_cons (pv 3) (pa_cons (pv 4) pa_nil)))) pa_nil)))))
      (pss_one (ps_ret (pv 1)))), ?_⟩
    obtain ⟨p, as, cs, rfl, hp, hc, hlen, q⟩ := h
    refine ⟨_, rfl, p, _, rfl, .inl (SqL.of hp), (by show 1 ≤ sizeLine; decide), fun l hl => ?_⟩
    have s1 := same_upd (H := H) (p := l) (o := .lst [.int ((refs as).length : Nat)]) hl
    have e0 : (refs as).length = cs.length := by unfold refs; rw [List.length_map]; exact hc.1
    refine ⟨_, rfl, p, rfl, ⟨_, SqL.of (s1 _ _ hp)⟩, for_list (K := K) (a := p) (xs := refs as)
      (fun i σ H' => ∃ v2 v3 v4 : Option V, σ = [some (.ref p), some (.ref l), v2, v3, v4] ∧ Same H H' ∧ H' l = some (.lst ((((cs.length : Nat) : Int) :: (cs.take i).flatMap chI).map V.int)))
      ⟨none, none, none, rfl, s1, by rw [upd_same, e0] <;> rfl⟩ (fun i σ H' _ ⟨_, _, _, _, k, _⟩ => SqL.of (k _ _ hp)) ?_ ?_⟩
    · rintro i x σ H' hx ⟨v2, v3, v4, rfl, k, hl'⟩
      obtain ⟨a, ea, rfl⟩ := refs_get hx
      obtain ⟨c, ec, ht⟩ := hc.get ea
      refine ⟨a, (chI c).map V.int, rfl, SqT.of (k _ _ ht), rfl, _, _, rfl, _, _, rfl, _, _, rfl, rfl, ?_⟩
      refine ⟨_, rfl, .inl ⟨rfl, _, SqL.of hl'⟩, _, rfl, _, rfl, _, rfl, (by show 3 ≤ sizeLine; decide), fun n hn => ?_⟩
      have lne : l ≠ n := ne_of_none hl' hn
      have bound : (((((cs.length : Nat) : Int) :: (cs.take i).flatMap chI).map V.int).length + 3) ≤ sizeLine := by
        have a1 := JM.flat_len chI_len (cs.take i)
        have a2 : (cs.take i).length ≤ cs.length := by rw [List.length_take]; omega
        refine line_of' ?_
        rw [List.length_map, List.length_cons]
        omega
      refine ⟨l, n, _, _, rfl, rfl, by rw [upd_ne lne]; exact hl', upd_same, bound, ?_⟩
      refine ⟨_, _, _, rfl, fun b o e => ?_, ?_⟩
      · have e' := k b o e
        rw [upd_ne (ne_of_none e hl), upd_ne (ne_of_none e' hn)]
        exact e'
      · rw [upd_same, take_more ec, List.flatMap_append, ← List.cons_append, List.map_append]
        rw [List.flatMap_cons, List.flatMap_nil, List.append_nil]
        rfl
    · rintro σ H' ⟨v2, v3, v4, rfl, k, hl'⟩
      refine ⟨_, rfl, q H' l k hl ?_⟩
      have e : (refs as).length = cs.length := e0
      rw [e, List.take_length] at hl'
      rw [changes_ints]
      exact hl'
  · obtain ⟨p, as, cs, rfl, _⟩ := h
    rfl
theorem scRows : FnScope ["rows", "told", "row"] ["rows"] (defScope sRows) := ⟨rfl, rfl, rfl, by decide +kernel, rfl, by decide +kernel, by decide +kernel⟩
theorem rowI_len (r : R) : (rowI r).length ≤ 4 := Nat.le_refl 4
theorem ok_rows (T : Txt K mg A) : Cal P w K mg base CX0 6 "rows_told" (spRows A) := by
  refine cal0 (k := 5) T.dRows (fun _ _ _ _ _ _ us hl => match us, hl with | [_], _ => rfl) scRows (fun vs H Q E h => ?_) (fun f cdv Ar outer s H vs Q E hr h => ?_)
  rotate_left
  · refine ⟨_, pss_cons (ps_set (i := 1) scRows.nd rfl (.inl rfl) (pe_lst (pa_cons (pe_callB call_len_seq (by rfl) T.bLen PySem.boot_len (pa_cons (pv 0) pa_nil)) pa_nil)))
      (pss_cons (ps_for PassesOwn.never rfl (pi_list (pv 0)) (pg_name (i := 2) scRows.nd rfl (.inl rfl))
        (pss_one (ps_expr (pe_bm PySem.F.plainAttrs_list PySem.F.slot_list_extend PySem.F.type_list_extend mt_extend (pv 1) (pa_cons (pe_mt0 (ok_shown T) hr (by decide) pass0 (pv 2)) pa_nil)))))
      (pss_one (ps_ret (pv 1)))), ?_⟩
    obtain ⟨p, as, rs, rfl, hp, hc, hlen, q⟩ := h
    refine ⟨_, rfl, p, _, rfl, .inl (SqL.of hp), (by show 1 ≤ sizeLine; decide), fun l hl => ?_⟩
    have s1 := same_upd (H := H) (p := l) (o := .lst [.int ((refs as).length : Nat)]) hl
    have e0 : (refs as).length = rs.length := by unfold refs; rw [List.length_map]; exact hc.1
    refine ⟨_, rfl, p, rfl, ⟨_, SqL.of (s1 _ _ hp)⟩, for_list (K := K) (a := p) (xs := refs as)
      (fun i σ H' => ∃ v2 : Option V, σ = [some (.ref p), some (.ref l), v2] ∧ Same H H' ∧ H' l = some (.lst ((((rs.length : Nat) : Int) :: (rs.take i).flatMap rowI).map V.int)))
      ⟨none, rfl, s1, by rw [upd_same, e0] <;> rfl⟩ (fun i σ H' _ ⟨_, _, k, _⟩ => SqL.of (k _ _ hp)) ?_ ?_⟩
    · rintro i x σ H' hx ⟨v2, rfl, k, hl'⟩
      obtain ⟨a, ea, rfl⟩ := refs_get hx
      obtain ⟨r, er, ⟨dx, hra⟩⟩ := hc.get ea
      have hra' := k _ _ hra
      refine ⟨_, rfl, .inl ⟨rfl, _, SqL.of hl'⟩, _, rfl, a, dx, _, rfl, hra', rowF_shown r, a, r, rfl, ⟨dx, hra'⟩, fun n hn => ?_⟩
      have lne : l ≠ n := ne_of_none hl' hn
      have bound : (((((rs.length : Nat) : Int) :: (rs.take i).flatMap rowI).map V.int).length + 4) ≤ sizeLine := by
        have a1 := JM.flat_len rowI_len (rs.take i)
        have a2 : (rs.take i).length ≤ rs.length := by rw [List.length_take]; omega
        refine line_of' ?_
        rw [List.length_map, List.length_cons]
        omega
      refine ⟨l, n, _, _, rfl, rfl, by rw [upd_ne lne]; exact hl', upd_same, bound, ?_⟩
      refine ⟨_, rfl, fun b o e => ?_, ?_⟩
      · have e' := k b o e
        rw [upd_ne (ne_of_none e hl), upd_ne (ne_of_none e' hn)]
        exact e'
      · rw [upd_same, take_more er, List.flatMap_append, ← List.cons_append, List.map_append]
        rw [List.flatMap_cons, List.flatMap_nil, List.append_nil]
    · rintro σ H' ⟨v2, rfl, k, hl'⟩
      refine ⟨_, rfl, q H' l k hl ?_⟩
      have e : (refs as).length = rs.length := e0
      rw [e, List.take_length] at hl'
      rw [rows_ints]
      exact hl'
  · obtain ⟨p, as, rs, rfl, _⟩ := h
    rfl
end
end JW
/-! ### versions -/
namespace JW
open PySem PySem.Spec PyProof.Rows L2
open JM (M)
theorem nv_eq {a b : Nat} : decide (nv a = nv b) = true ↔ a = b := by
  rw [decide_eq_true_eq]
  constructor
  · intro h
    have h' : (a : Int) = b := V.int.inj h
    omega
  · intro h
    rw [h]
theorem cle {a b : Nat} : decide ((a : Int) ≤ (b : Int)) = true ↔ a ≤ b := by rw [decide_eq_true_eq]; omega
theorem clt {a b : Nat} : decide ((a : Int) < (b : Int)) = true ↔ a < b := by rw [decide_eq_true_eq]; omega
theorem newer_dec (x y : R) : decide ((y.t : Int) < (x.t : Int) ∨ ((x.t : Int) = (y.t : Int) ∧ (y.id : Int) < (x.id : Int))) = Hs06.newer x y := by
  rw [Bool.eq_iff_iff, decide_eq_true_eq, JM.newer_iff]
  unfold JM.lt2
  omega
def spNewer (A : Adr) : Sp := fun vs H Q _ => ∃ (a b : Addr) (x y : R), vs = [.ref a, .ref b] ∧ RowAt A H a x ∧ RowAt A H b y ∧ ∀ H', Same H H' → Q (.bl (Hs06.newer x y)) H'
/-- what stands for a version, or for none -/
def HoldV (A : Adr) (H : Hp) (f : Option R) (v : V) : Prop := (f = none ∧ v = .non) ∨ ∃ (a : Addr) (y : R), f = some y ∧ v = .ref a ∧ RowAt A H a y
def spHolding (A : Adr) : Sp := fun vs H Q _ => ∃ (p : Addr) (as : List Addr) (rs : List R) (key t : Nat), vs = [.ref p, nv key, nv t] ∧ H p = some (.lst (refs as)) ∧ RowsAt A H as rs ∧
  ∀ (H' : Hp) (v : V), Same H H' → HoldV A H' (JM.holding rs key t) v → Q v H'
def spEnd (A : Adr) : Sp := fun vs H Q _ => ∃ (p a : Addr) (as : List Addr) (rs : List R) (v : R), vs = [.ref p, .ref a] ∧ H p = some (.lst (refs as)) ∧ RowsAt A H as rs ∧ RowAt A H a v ∧
  ∀ H', Same H H' → Q (nv (JM.endOf rs v)) H'
def spAsked (A : Adr) : Sp := fun vs H Q _ => ∃ (a p : Addr) (e : Nat) (as : List Addr) (rs : List R) (v : R), vs = [.ref a, nv e, .ref p] ∧ H p = some (.lst (refs as)) ∧ RowsAt A H as rs ∧ RowAt A H a v ∧ rs.length ≤ 100000 ∧
  ∀ H', Same H H' → Q (.bl (JM.asked v e rs)) H'
def spKept (A : Adr) : Sp := fun vs H Q _ => ∃ (p a q : Addr) (k : Nat) (as bs : List Addr) (rs ls : List R) (v : R), vs = [.ref p, .ref a, .ref q, nv k] ∧ H p = some (.lst (refs as)) ∧ RowsAt A H as rs ∧ H q = some (.lst (refs bs)) ∧ RowsAt A H bs ls ∧
  RowAt A H a v ∧ ls.length ≤ 100000 ∧ ∀ H', Same H H' → Q (.bl (JM.keptV rs ls k v)) H'
section
variable {P : Program} {w : World} {K : PySem.W.Frag} {mg : Str → Option Value} {base : Heap} {A : Adr}
theorem scNewer : FnScope ["one", "other"] ["one", "other"] (defScope sNewer) := ⟨rfl, rfl, rfl, by decide +kernel, rfl, by decide +kernel, by decide +kernel⟩
theorem ok_newer (T : Txt K mg A) : Cal P w K mg base CX0 3 "is_newer" (spNewer A) := by
  refine cal0 (k := 2) T.dNewer (fun _ _ _ _ _ _ us hl => match us, hl with | [_, _], _ => rfl) scNewer (fun vs H Q E h => ?_) (fun f cdv Ar outer s H vs Q E hr h => ?_)
  rotate_left
  · refine ⟨_, pss_one (ps_ret (pe_cmpR (op_gtP hr.units0) (pe_tup (pa_cons (pe_fld (pv 0) rfl) (pa_cons (pe_fld (pv 0) rfl) pa_nil))) (pe_tup (pa_cons (pe_fld (pv 1) rfl) (pa_cons (pe_fld (pv 1) rfl) pa_nil))) (nomark _))), ?_⟩
    obtain ⟨a, b, x, y, rfl, ⟨dx, ha⟩, ⟨dy, hb⟩, q⟩ := h
    refine ⟨_, rfl, a, A.CR, dx, _, _, rfl, ha, T.clR, T.nTime, rowF_time x, _, rfl, a, A.CR, dx, _, _, rfl, ha, T.clR, T.nNumber, rowF_number x, (by show 2 ≤ sizeLine; decide), fun p hp => ?_⟩
    have s1 := same_upd (o := .tup [nv x.t, nv x.id]) hp
    refine ⟨_, rfl, b, A.CR, dy, _, _, rfl, s1 _ _ hb, T.clR, T.nTime, rowF_time y, _, rfl, b, A.CR, dy, _, _, rfl, s1 _ _ hb, T.clR, T.nNumber, rowF_number y, (by show 2 ≤ sizeLine; decide), fun r hr2 => ?_⟩
    have s2 := same_upd (o := .tup [nv y.t, nv y.id]) hr2
    refine ⟨p, r, _, _, _, _, rfl, rfl, SqT.of (s2 _ _ upd_same), SqT.of upd_same, ?_⟩
    rw [newer_dec x y]
    exact q _ (s1.trans s2)
  · obtain ⟨a, b, x, y, rfl, _⟩ := h
    rfl
theorem scHolding : FnScope ["versions", "key", "time", "found", "one"] ["versions", "key", "time"] (defScope sHolding) := ⟨rfl, rfl, rfl, by decide +kernel, rfl, by decide +kernel, by decide +kernel⟩
theorem hold_hit {key t : Nat} {f : Option R} {o : R} (h1 : o.key = key) (h2 : o.t ≤ t) (h3 : ∀ g, f = some g → Hs06.newer o g = true) : JM.hold1 key t f o = some o := by
  unfold JM.hold1
  refine if_pos ?_
  rw [Bool.and_eq_true, Bool.and_eq_true, beq_iff_eq, decide_eq_true_eq]
  refine ⟨h1, h2, ?_⟩
  cases f with
  | none => rfl
  | some g => exact h3 g rfl
theorem hold_miss {key t : Nat} {f : Option R} {o : R} (h : ¬ (o.key = key ∧ o.t ≤ t ∧ ∀ g, f = some g → Hs06.newer o g = true)) : JM.hold1 key t f o = f := by
  unfold JM.hold1
  refine if_neg fun q => h ?_
  rw [Bool.and_eq_true, Bool.and_eq_true, beq_iff_eq, decide_eq_true_eq] at q
  refine ⟨q.1, q.2.1, fun g e => ?_⟩
  subst e
  exact q.2.2
theorem ok_holding (T : Txt K mg A) : Cal P w K mg base CX0 6 "holding" (spHolding A) := by
  refine cal0 (k := 5) T.dHolding (fun _ _ _ _ _ _ us hl => match us, hl with | [_, _, _], _ => rfl) scHolding (fun vs H Q E h => ?_) (fun f cdv Ar outer s H vs Q E hr h => ?_)
  rotate_left
  · refine ⟨_, pss_cons (ps_set (i := 3) scHolding.nd rfl (.inl rfl) pe_non) (pss_cons (ps_for PassesOwn.never rfl (pi_list (pv 0)) (pg_name (i := 4) scHolding.nd rfl (.inl rfl))
      (pss_one (ps_if (PW.pt (pw_and (pt_cmpR op_eq (pe_fld (pv 4) rfl) (pv 1) (nomark _)) (pw_and (pt_cmpR op_le (pe_fld (pv 4) rfl) (pv 2) (nomark _))
        (pw_and1 (PW.pt (pw_or (pt_cmpR op_isN (pv 3) pe_non (nomark _)) (pw_or1 (pt_val (pe_c (ok_newer T) hr (by decide) pass0 (by rfl) (pa_cons (pv 4) (pa_cons (pv 3) pa_nil)))))))))))
        (pss_one (ps_set (i := 3) scHolding.nd rfl (.inl rfl) (pv 4))) pss_nil))) (pss_one (ps_ret (pv 3)))), ?_⟩
    obtain ⟨p, as, rs, key, t, rfl, hp, hc, q⟩ := h
    refine ⟨_, rfl, p, rfl, ⟨_, SqL.of hp⟩, for_list (K := K) (a := p) (xs := refs as)
      (fun i σ H' => ∃ (fv : V) (v4 : Option V), σ = [some (.ref p), some (nv key), some (nv t), some fv, v4] ∧ Same H H' ∧ HoldV A H ((rs.take i).foldl (JM.hold1 key t) none) fv)
      ⟨.non, none, rfl, Same.refl _, .inl ⟨rfl, rfl⟩⟩ (fun i σ H' _ ⟨_, _, _, k, _⟩ => SqL.of (k _ _ hp)) ?_ ?_⟩
    · rintro i x σ H' hx ⟨fv, v4, rfl, k, hf⟩
      obtain ⟨a, ea, rfl⟩ := refs_get hx
      obtain ⟨o, eo, ⟨dx, ha⟩⟩ := hc.get ea
      have ha' := k _ _ ha
      have fold : (rs.take (i + 1)).foldl (JM.hold1 key t) none = JM.hold1 key t ((rs.take i).foldl (JM.hold1 key t) none) o := by
        rw [take_more eo, List.foldl_append]
        rfl
      generalize (rs.take i).foldl (JM.hold1 key t) none = f0 at hf fold
      refine ⟨_, rfl, a, A.CR, dx, _, _, rfl, ha', T.clR, T.nKey, rowF_key o, _, rfl, rfl, _, rfl, ite2 (fun c1 => ?_) (fun c1 => ?_)⟩
      · have k1 : o.key = key := nv_eq.mp c1
        refine ⟨_, rfl, a, A.CR, dx, _, _, rfl, ha', T.clR, T.nTime, rowF_time o, _, rfl, _, _, rfl, rfl, _, rfl, ite2 (fun c2 => ?_) (fun c2 => ?_)⟩
        · have k2 : o.t ≤ t := cle.mp c2
          rcases hf with ⟨rfl, rfl⟩ | ⟨b, y, rfl, rfl, ⟨dy, hb⟩⟩
          · refine ⟨_, rfl, rfl, _, rfl, iteT (iteT ⟨_, rfl, .ref a, _, rfl, k, ?_⟩)⟩
            rw [fold, hold_hit k1 k2 fun g e => by cases e]
            exact .inr ⟨a, o, rfl, rfl, ⟨dx, ha⟩⟩
          · refine ⟨_, rfl, rfl, _, rfl, iteF ⟨_, rfl, _, rfl, a, b, o, y, rfl, ⟨dx, ha'⟩, ⟨dy, k _ _ hb⟩, fun H2 k2' => ⟨_, rfl, ite2 (fun c3 => ?_) (fun c3 => ?_)⟩⟩⟩
            · refine ⟨_, rfl, .ref a, _, rfl, k.trans k2', ?_⟩
              rw [fold, hold_hit k1 k2 fun g e => by cases e; exact c3]
              exact .inr ⟨a, o, rfl, rfl, ⟨dx, ha⟩⟩
            · refine ⟨.ref b, _, rfl, k.trans k2', ?_⟩
              rw [fold, hold_miss fun z => c3 (z.2.2 y rfl)]
              exact .inr ⟨b, y, rfl, rfl, ⟨dy, hb⟩⟩
        · refine iteF ⟨fv, _, rfl, k, ?_⟩
          rw [fold, hold_miss fun z => c2 (cle.mpr z.2.1)]
          exact hf
      · refine iteF ⟨fv, _, rfl, k, ?_⟩
        rw [fold, hold_miss fun z => c1 (nv_eq.mpr z.1)]
        exact hf
    · rintro σ H' ⟨fv, v4, rfl, k, hf⟩
      have e0 : (refs as).length = rs.length := by unfold refs; rw [List.length_map]; exact hc.1
      rw [e0, List.take_length] at hf
      refine ⟨_, rfl, q H' fv k ?_⟩
      rcases hf with hf | ⟨a, y, h1, h2, h3⟩
      · exact .inl hf
      · exact .inr ⟨a, y, h1, h2, h3.same k⟩
  · obtain ⟨p, as, rs, key, t, rfl, _⟩ := h
    rfl
theorem scEnd : FnScope ["versions", "version", "found", "one"] ["versions", "version"] (defScope sEnd) := ⟨rfl, rfl, rfl, by decide +kernel, rfl, by decide +kernel, by decide +kernel⟩
theorem min_int (i j : Nat) : (if (j : Int) < (i : Int) then (j : Int) else (i : Int)) = ((min i j : Nat) : Int) := by
  by_cases h : (j : Int) < (i : Int)
  · rw [if_pos h]; omega
  · rw [if_neg h]; omega
theorem max_int (i j : Nat) : (if (j : Int) > (i : Int) then (j : Int) else (i : Int)) = ((max i j : Nat) : Int) := by
  by_cases h : (j : Int) > (i : Int)
  · rw [if_pos h]; omega
  · rw [if_neg h]; omega
theorem ok_end (T : Txt K mg A) : Cal P w K mg base CX0 6 "end_of" (spEnd A) := by
  refine cal0 (k := 5) T.dEnd (fun _ _ _ _ _ _ us hl => match us, hl with | [_, _], _ => rfl) scEnd (fun vs H Q E h => ?_) (fun f cdv Ar outer s H vs Q E hr h => ?_)
  rotate_left
  · refine ⟨_, pss_cons (ps_set (i := 2) scEnd.nd rfl (.inl rfl) (pe_op op_add (pe_ic T.MOST_TIME rfl) pe_int)) (pss_cons (ps_for PassesOwn.never rfl (pi_list (pv 0)) (pg_name (i := 3) scEnd.nd rfl (.inl rfl))
      (pss_one (ps_if (PW.pt (pw_and (pt_cmpR op_eq (pe_fld (pv 3) rfl) (pe_fld (pv 1) rfl) (nomark _)) (pw_and1 (pt_val (pe_c (ok_newer T) hr (by decide) pass0 (by rfl) (pa_cons (pv 3) (pa_cons (pv 1) pa_nil)))))))
        (pss_one (ps_set (i := 2) scEnd.nd rfl (.inl rfl) (pe_callB (call_min2 rfl) (by rfl) T.bMin (by decide +kernel) (pa_cons (pv 2) (pa_cons (pe_fld (pv 3) rfl) pa_nil))))) pss_nil))) (pss_one (ps_ret (pv 2)))), ?_⟩
    obtain ⟨p, a, as, rs, v, rfl, hp, hc, ⟨dv, hv⟩, q⟩ := h
    refine ⟨_, _, rfl, rfl, _, rfl, p, rfl, ⟨_, SqL.of hp⟩, for_list (K := K) (a := p) (xs := refs as)
      (fun i σ H' => ∃ (v3 : Option V), σ = [some (.ref p), some (.ref a), some (nv ((rs.take i).foldl (JM.end1 v) 1000001)), v3] ∧ Same H H')
      ⟨none, rfl, Same.refl _⟩ (fun i σ H' _ ⟨_, _, k⟩ => SqL.of (k _ _ hp)) ?_ ?_⟩
    · rintro i x σ H' hx ⟨v3, rfl, k⟩
      obtain ⟨b, eb, rfl⟩ := refs_get hx
      obtain ⟨o, eo, ⟨dx, hb⟩⟩ := hc.get eb
      have hb' := k _ _ hb
      have hv' := k _ _ hv
      have fold : (rs.take (i + 1)).foldl (JM.end1 v) 1000001 = JM.end1 v ((rs.take i).foldl (JM.end1 v) 1000001) o := by
        rw [take_more eo, List.foldl_append]
        rfl
      generalize (rs.take i).foldl (JM.end1 v) 1000001 = f0 at fold
      refine ⟨_, rfl, b, A.CR, dx, _, _, rfl, hb', T.clR, T.nKey, rowF_key o, _, rfl, a, A.CR, dv, _, _, rfl, hv', T.clR, T.nKey, rowF_key v, rfl, _, rfl, ite2 (fun c1 => ?_) (fun c1 => ?_)⟩
      · have k1 : o.key = v.key := nv_eq.mp c1
        refine ⟨_, rfl, _, rfl, b, a, o, v, rfl, ⟨dx, hb'⟩, ⟨dv, hv'⟩, fun H2 k2 => ⟨_, rfl, ite2 (fun c2 => ?_) (fun c2 => ?_)⟩⟩
        · refine ⟨_, rfl, _, rfl, b, A.CR, dx, _, _, rfl, k2 _ _ hb', T.clR, T.nTime, rowF_time o, _, _, rfl, ?_⟩
          refine ⟨some (.ref b), ?_, k.trans k2⟩
          rw [fold]
          have e : JM.end1 v f0 o = min f0 o.t := by
            unfold JM.end1
            refine if_pos ?_
            rw [Bool.and_eq_true, beq_iff_eq]
            exact ⟨k1, c2⟩
          rw [e]
          show List.set [some (V.ref p), some (V.ref a), some (nv f0), some (V.ref b)] 2 (some (V.int (if (o.t : Int) < (f0 : Int) then (o.t : Int) else (f0 : Int)))) = _
          rw [min_int]
          rfl
        · refine ⟨some (.ref b), ?_, k.trans k2⟩
          rw [fold]
          have e : JM.end1 v f0 o = f0 := by
            unfold JM.end1
            refine if_neg fun z => c2 ?_
            rw [Bool.and_eq_true] at z
            exact z.2
          rw [e]
          rfl
      · refine iteF ⟨some (.ref b), ?_, k⟩
        rw [fold]
        have e : JM.end1 v f0 o = f0 := by
          unfold JM.end1
          refine if_neg fun z => c1 (nv_eq.mpr ?_)
          rw [Bool.and_eq_true, beq_iff_eq] at z
          exact z.1
        rw [e]
        rfl
    · rintro σ H' ⟨v3, rfl, k⟩
      have e0 : (refs as).length = rs.length := by unfold refs; rw [List.length_map]; exact hc.1
      refine ⟨_, rfl, ?_⟩
      rw [e0, List.take_length]
      exact q H' k
  · obtain ⟨p, a, as, rs, v, rfl, _⟩ := h
    rfl
abbrev qLe : R2 := rI0 fun i j => .bl (decide (i ≤ j))
abbrev qLt : R2 := rI0 fun i j => .bl (decide (i < j))
theorem scAsked : FnScope ["version", "end", "waiting", "row"] ["version", "end", "waiting"] (defScope sAsked) := ⟨rfl, rfl, rfl, by decide +kernel, rfl, by decide +kernel, by decide +kernel⟩
theorem ok_asked (T : Txt K mg A) : Cal P w K mg base CX0 3 "is_asked" (spAsked A) := by
  refine cal0 (k := 2) T.dAsked (fun _ _ _ _ _ _ us hl => match us, hl with | [_, _, _], _ => rfl) scAsked (fun vs H Q E h => ?_) (fun f cdv Ar outer s H vs Q E hr h => ?_)
  rotate_left
  · refine ⟨_, pss_one (ps_ret (pe_callB (cr_any rfl) (by rfl) T.bAny (by decide +kernel) (pa_cons (pe_lc (own := [("row", 3)]) (g := gName 3) (tt := tYes) (te := tAndV (tOp rEq (tFld K (tVar 3) "key") (tFld K (tVar 0) "key")) (tChain qLe qLt (tFld K (tVar 0) "time") (tFld K (tVar 3) "time") (tVar 1))) rfl scAsked.nd (pi_list (pv 2)) (blkOk_by (N := ["version", "end", "waiting", "row"]) (sc := defScope sAsked) (by decide +kernel))
      (fun _ _ _ _ _ => pg_name (i := 3) scAsked.nd rfl (Or.inl rfl)) (fun _ _ _ _ _ => pts_nil)
      (fun _ _ _ _ _ => by exact pe_and (pe_cmpR op_eq (pe_fld (pv 3) rfl) (pe_fld (pv 0) rfl) (nomark _)) (pe_one (pe_chain op_le op_lt (pe_fld (pv 0) rfl) (pe_fld (pv 3) rfl) (pv 1))))) pa_nil))), ?_⟩
    obtain ⟨a, p, e, as, rs, v, rfl, hp, hc, ⟨dv, hv⟩, hlen, q⟩ := h
    have e0 : (refs as).length = rs.length := by unfold refs; rw [List.length_map]; exact hc.1
    refine ⟨_, rfl, p, rfl, ⟨_, SqL.of hp⟩, fun D hD => lc_list (K := K) (a := p) (xs := refs as)
      (fun i H' => Same H H' ∧ H' D = some (.lst (((rs.take i).map fun l => l.key == v.key && (decide (v.t ≤ l.t) && decide (l.t < e))).map V.bl)))
      ⟨same_upd hD, upd_same⟩ (fun i H' _ ⟨k, _⟩ => SqL.of (k _ _ hp)) ?_ ?_⟩
    · rintro i x H' hx ⟨k, hd⟩
      obtain ⟨b, eb, rfl⟩ := refs_get hx
      obtain ⟨o, eo, ⟨dx, hb⟩⟩ := hc.get eb
      have hb' := k _ _ hb
      have hv' := k _ _ hv
      have fin : ∀ c : Bool, c = (o.key == v.key && (decide (v.t ≤ o.t) && decide (o.t < e))) → ∃ acc, H' D = some (.lst acc) ∧ acc.length < sizeLine ∧ Same H (upd H' D (.lst (acc ++ [V.bl c]))) ∧
          upd H' D (.lst (acc ++ [V.bl c])) D = some (.lst (((rs.take (i + 1)).map fun l => l.key == v.key && (decide (v.t ≤ l.t) && decide (l.t < e))).map V.bl)) := fun c ec => by
        refine ⟨_, hd, ?_, fun z o' ez => ?_, ?_⟩
        · refine line_lt' ?_
          rw [List.length_map, List.length_map, List.length_take]
          omega
        · rw [upd_ne (ne_of_none ez hD)]
          exact k _ _ ez
        · rw [upd_same, take_more eo, List.map_append, List.map_append, ec]
          rfl
      refine ⟨rfl, _, rfl, b, A.CR, dx, _, _, rfl, hb', T.clR, T.nKey, rowF_key o, _, rfl, a, A.CR, dv, _, _, rfl, hv', T.clR, T.nKey, rowF_key v, rfl, _, rfl, ite2 (fun c1 => ?_) (fun c1 => ?_)⟩
      · refine ⟨_, rfl, a, A.CR, dv, _, _, rfl, hv', T.clR, T.nTime, rowF_time v, _, rfl, b, A.CR, dx, _, _, rfl, hb', T.clR, T.nTime, rowF_time o, _, _, rfl, rfl, _, rfl, ite2 (fun c2 => ?_) (fun c2 => ?_)⟩
        · refine ⟨_, rfl, _, _, rfl, rfl, fin _ ?_⟩
          have z1 : (o.key == v.key) = true := beq_iff_eq.mpr (nv_eq.mp c1)
          rw [z1, decide_eq_true (cle.mp c2)]
          simp only [Bool.true_and]
          exact decide_eq_decide.mpr (by omega)
        · refine fin false ?_
          rw [decide_eq_false (fun z => c2 (cle.mpr z)), Bool.false_and, Bool.and_false]
      · refine fin false ?_
        rw [beq_eq_false_iff_ne.mpr (fun z => c1 (nv_eq.mpr z)), Bool.false_and]
    · rintro H' ⟨k, hd⟩
      rw [e0, List.take_length] at hd
      refine ⟨D, _, rfl, SqL.of hd, ?_⟩
      rw [List.any_map]
      exact q H' k
  · obtain ⟨a, p, e, as, rs, v, rfl, _⟩ := h
    rfl
theorem scKept : FnScope ["versions", "version", "waiting", "mark", "end"] ["versions", "version", "waiting", "mark"] (defScope sKept) := ⟨rfl, rfl, rfl, by decide +kernel, rfl, by decide +kernel, by decide +kernel⟩
theorem ok_kept (T : Txt K mg A) : Cal P w K mg base CX0 9 "is_kept" (spKept A) := by
  refine cal0 (k := 8) T.dKept (fun _ _ _ _ _ _ us hl => match us, hl with | [_, _, _, _], _ => rfl) scKept (fun vs H Q E h => ?_) (fun f cdv Ar outer s H vs Q E hr h => ?_)
  rotate_left
  · refine ⟨_, pss_cons (ps_set (i := 4) scKept.nd rfl (.inl rfl) (pe_c (ok_end T) hr (by decide) pass0 (by rfl) (pa_cons (pv 0) (pa_cons (pv 1) pa_nil))))
      (pss_one (ps_ret (pe_or (pe_c (ok_asked T) hr (by decide) pass0 (by rfl) (pa_cons (pv 1) (pa_cons (pv 4) (pa_cons (pv 2) pa_nil))))
        (pe_one (pe_cmpR op_lt (pe_callB (call_max2 rfl) (by rfl) T.bMax (by decide +kernel) (pa_cons (pe_fld (pv 1) rfl) (pa_cons (pv 3) pa_nil))) (pv 4) (nomark _)))))), ?_⟩
    obtain ⟨p, a, r, k, as, bs, rs, ls, v, rfl, hp, hc, hr2, hd, ⟨dv, hv⟩, hlen, q⟩ := h
    refine ⟨_, rfl, _, rfl, p, a, as, rs, v, rfl, hp, hc, ⟨dv, hv⟩, fun H1 k1 => ?_⟩
    refine ⟨_, rfl, _, rfl, _, rfl, a, r, _, bs, ls, v, rfl, k1 _ _ hr2, hd.same k1, ⟨dv, k1 _ _ hv⟩, hlen, fun H2 k2 => ⟨_, rfl, ite2 (fun c => ?_) (fun c => ?_)⟩⟩
    · have e : JM.keptV rs ls k v = true := by
        unfold JM.keptV
        rw [c, Bool.true_or]
      rw [← e]
      exact q H2 (k1.trans k2)
    · have k12 := k1.trans k2
      refine ⟨_, rfl, a, A.CR, dv, _, _, rfl, k12 _ _ hv, T.clR, T.nTime, rowF_time v, _, rfl, _, _, rfl, _, rfl, _, _, rfl, rfl, ?_⟩
      have e : JM.keptV rs ls k v = decide ((if (k : Int) > (v.t : Int) then (k : Int) else (v.t : Int)) < ((JM.endOf rs v : Nat) : Int)) := by
        unfold JM.keptV
        rw [Bool.eq_false_iff.mpr c, Bool.false_or, max_int]
        exact decide_eq_decide.mpr (by omega)
      show Q (.bl (decide ((if (k : Int) > (v.t : Int) then (k : Int) else (v.t : Int)) < ((JM.endOf rs v : Nat) : Int)))) H2
      rw [← e]
      exact q H2 k12
  · obtain ⟨p, a, r, k, as, bs, rs, ls, v, rfl, _⟩ := h
    rfl
end
end JW
/-! ### terms -/
namespace JW
open PySem PySem.Spec PyProof.Rows L2
open JM (M)
/-- what a callee lets out is what this def lets out -/
theorem passE {P : Program} {w : World} {K : PySem.W.Frag} {mg : Str → Option Value} {base : Heap} {N : List Str} {qual : Str} {scope : Scope} {f : Addr} {cd : Value} {A : Around} {outer : List Env} {s : Shared} {H : Hp} {E : XK} :
    Passes (L2.CX P w) (cxOf (L2.CX P w) P w K mg base N qual scope f cd A outer s H E) E := passes_call (takes_of rfl rfl rfl rfl) (fun _ _ _ _ h => h)
/-- begin's answer: a refusal, or none -/
def beg (k a b e : Nat) : Option Int :=
  if 3 < k then some (-1) else if 100000 < a ∨ 100000 < b then some (-2) else if k = 3 ∧ ¬ (a = 0 ∧ b = 0) then some (-2) else if 1 < e ∨ (e ≠ 0 ∧ (k = 0 ∨ k = 3)) then some (-3) else none
theorem exec_begin (m : M) (k a b e : Nat) : m.exec (.begin_ k a b e) = match beg k a b e with
    | some n => .error n
    | none => .ok (JM.new k a b (e == 1), [0]) := by
  unfold M.exec beg
  dsimp only
  by_cases h1 : 3 < k
  · rw [if_pos h1, if_pos h1]
  · rw [if_neg h1, if_neg h1]
    by_cases h2 : 100000 < a ∨ 100000 < b
    · rw [if_pos h2, if_pos h2]
    · rw [if_neg h2, if_neg h2]
      by_cases h3 : k = 3 ∧ ¬ (a = 0 ∧ b = 0)
      · rw [if_pos h3, if_pos h3]
      · rw [if_neg h3, if_neg h3]
        by_cases h4 : 1 < e ∨ (e ≠ 0 ∧ (k = 0 ∨ k = 3))
        · rw [if_pos h4, if_pos h4]
        · rw [if_neg h4, if_neg h4]
def spTermsI (A : Adr) : Sp := fun vs H Q _ => ∃ (p dx : Addr) (k a b : Nat) (e : Bool), vs = [.ref p, nv k, nv a, nv b, .int (sv e)] ∧ H p = some (.ins A.CT dx []) ∧ Q .non (upd H p (.ins A.CT dx (termF (JM.new k a b e))))
def spIsMoment (A : Adr) : Sp := fun vs H Q _ => ∃ (t : Addr) (m : M), vs = [.ref t] ∧ TermsAt A H t m ∧ Q (.bl (decide (m.kind = 3))) H
def spTA (A : Adr) (f : M → Bool → Bool) : Sp := fun vs H Q _ => ∃ (t : Addr) (m : M) (s : Bool), vs = [.ref t, .int (sv s)] ∧ TermsAt A H t m ∧ m.kind ≤ 3 ∧ Q (.bl (f m s)) H
def spMeet (A : Adr) : Sp := fun vs H Q _ => ∃ (t a b : Addr) (m : M) (s : Bool) (r o : R), vs = [.ref t, .int (sv s), .ref a, .ref b] ∧ TermsAt A H t m ∧ RowAt A H a r ∧ RowAt A H b o ∧ Q (.bl (m.meet s r o)) H
def spWanted (A : Adr) : Sp := fun vs H Q _ => ∃ (t a : Addr) (m : M) (s : Bool) (r : R) (k : Nat), vs = [.ref t, .int (sv s), .ref a, nv k] ∧ TermsAt A H t m ∧ RowAt A H a r ∧ Q (.bl (m.want s r k)) H
def spNew (A : Adr) : Sp := fun vs H Q E => ∃ k a b e : Nat, vs = [nv k, nv a, nv b, nv e] ∧ (∀ n, beg k a b e = some n → Rais A H E n) ∧
  (beg k a b e = none → ∀ (H' : Hp) (t : Addr), Same H H' → H t = none → TermsAt A H' t (JM.new k a b (e == 1)) → Q (.ref t) H')
section
variable {P : Program} {w : World} {K : PySem.W.Frag} {mg : Str → Option Value} {base : Heap} {A : Adr}
theorem scTermsI : FnScope ["self", "sort", "ahead", "after", "eager"] ["self", "sort", "ahead", "after", "eager"] (defScope (sTerms 0)) := ⟨rfl, rfl, rfl, by decide +kernel, rfl, by decide +kernel, by decide +kernel⟩
theorem termF_new (k a b : Nat) (e : Bool) : putF "eager" (.int (sv e)) (putF "after" (nv b) (putF "ahead" (nv a) (putF "kind" (nv k) []))) = termF (JM.new k a b e) := by
  have e1 : putF "kind" (nv k) [] = ([("kind", nv k)] : List (Str × V)) := rfl
  have e2 : putF "ahead" (nv a) ([("kind", nv k)] : List (Str × V)) = ([("kind", nv k), ("ahead", nv a)] : List (Str × V)) := (put_past (by decide +kernel)).trans rfl
  have e3 : putF "after" (nv b) ([("kind", nv k), ("ahead", nv a)] : List (Str × V)) = ([("kind", nv k), ("ahead", nv a), ("after", nv b)] : List (Str × V)) := (put_past (by decide +kernel)).trans (congrArg _ ((put_past (by decide +kernel)).trans rfl))
  have e4 : putF "eager" (.int (sv e)) ([("kind", nv k), ("ahead", nv a), ("after", nv b)] : List (Str × V)) = ([("kind", nv k), ("ahead", nv a), ("after", nv b), ("eager", .int (sv e))] : List (Str × V)) :=
    (put_past (by decide +kernel)).trans (congrArg _ ((put_past (by decide +kernel)).trans (congrArg _ ((put_past (by decide +kernel)).trans rfl))))
  rw [e1, e2, e3, e4]
  rfl
theorem ok_termsI (T : Txt K mg A) : Mak P w K mg base CX0 3 "Terms" A.CT (spTermsI A) := by
  refine mak0 (k := 2) T.iTerms (fun _ _ _ _ _ _ us hl => match us, hl with | [_, _, _, _, _], _ => rfl) scTermsI (fun vs H Q E h => ?_) (fun f cdv Ar outer s H vs Q E hr h => ?_)
  rotate_left
  · refine ⟨_, pss_cons (ps_fld (pv 0) (pv 1) rfl) (pss_cons (ps_fld (pv 0) (pv 2) rfl) (pss_cons (ps_fld (pv 0) (pv 3) rfl) (pss_one (ps_fld (pv 0) (pv 4) rfl)))), ?_⟩
    obtain ⟨p, dx, k, a, b, e, rfl, hp, q⟩ := h
    refine ⟨_, rfl, _, rfl, p, A.CT, dx, [], rfl, hp, T.clT, T.nKind, (by show 0 < 1000; decide), ?_⟩
    refine ⟨_, rfl, _, rfl, p, A.CT, dx, _, rfl, upd_same, T.clT, T.nAhead, (by show 1 < 1000; decide), ?_⟩
    refine ⟨_, rfl, _, rfl, p, A.CT, dx, _, rfl, upd_same, T.clT, T.nAfter, Nat.lt_of_le_of_lt (length_putF _ _ _) (by show 1 + 1 < 1000; decide), ?_⟩
    refine ⟨_, rfl, _, rfl, p, A.CT, dx, _, rfl, upd_same, T.clT, T.nEager, Nat.lt_of_le_of_lt (length_putF _ _ _) (Nat.lt_of_le_of_lt (Nat.succ_le_succ (length_putF _ _ _)) (by show 1 + 1 + 1 < 1000; decide)), ?_⟩
    show Q .non (upd (upd (upd (upd H p _) p _) p _) p _)
    rw [upd_upd, upd_upd, upd_upd]
    rw [← termF_new k a b e] at q
    exact q
  · obtain ⟨p, dx, k, a, b, e, rfl, _⟩ := h
    rfl
theorem scIsMoment : FnScope ["self"] ["self"] (defScope (sTerms 1)) := ⟨rfl, rfl, rfl, by decide +kernel, rfl, by decide +kernel, by decide +kernel⟩
theorem kind3 (n : Nat) : decide (nv n = V.int 3) = decide (n = 3) := by
  rw [Bool.eq_iff_iff, decide_eq_true_eq, decide_eq_true_eq]
  constructor
  · intro h
    have h' : (n : Int) = 3 := V.int.inj h
    omega
  · intro h
    rw [h]
    rfl
theorem ok_isMoment (T : Txt K mg A) : Met P w K mg base CX0 3 A.CT "is_moment" (spIsMoment A) := by
  refine met0 (k := 2) T.clT T.mIsMoment (fun _ _ _ _ _ _ us hl => match us, hl with | [_], _ => rfl) scIsMoment (fun vs H Q E h => ?_) (fun f cdv Ar outer s H vs Q E hr h => ?_)
  rotate_left
  · refine ⟨_, pss_one (ps_ret (pe_cmpR op_eq (pe_fld (pv 0) rfl) (pe_ic T.MOMENT rfl) (nomark _))), ?_⟩
    obtain ⟨t, m, rfl, ⟨dx, ht⟩, q⟩ := h
    refine ⟨_, rfl, t, A.CT, dx, _, _, rfl, ht, T.clT, T.nKind, termF_kind m, rfl, ?_⟩
    rw [kind3]
    exact q
  · obtain ⟨t, m, rfl, _⟩ := h
    rfl
theorem scTA2 : FnScope ["self", "side"] ["self", "side"] (defScope (sTerms 2)) := ⟨rfl, rfl, rfl, by decide +kernel, rfl, by decide +kernel, by decide +kernel⟩
theorem ok_tellsAlone (T : Txt K mg A) : Met P w K mg base CX0 3 A.CT "tells_alone" (spTA A M.alone) := by
  refine met0 (k := 2) T.clT T.mTellsAlone (fun _ _ _ _ _ _ us hl => match us, hl with | [_, _], _ => rfl) scTA2 (fun vs H Q E h => ?_) (fun f cdv Ar outer s H vs Q E hr h => ?_)
  rotate_left
  · obtain ⟨b, b0, b1, b2, b3, hm, hs⟩ := T.tol
    refine ⟨_, pss_one (ps_ret (pe_cmpR op_in_seq (pv 1) (pe_ix ix_tup (pe_glob (v := .ref b) rfl hm rfl) (pe_fld (pv 0) rfl) (fun _ _ => rfl)) (by rfl))), ?_⟩
    obtain ⟨t, m, s, rfl, ⟨dx, ht⟩, hk, q⟩ := h
    obtain ⟨h1, h2, h3, h4, h5⟩ := hs H
    have hc : m.kind = 0 ∨ m.kind = 1 ∨ m.kind = 2 ∨ m.kind = 3 := by omega
    have fin : ∀ (j : Nat) (c : Addr) (xs : List V), m.kind = j → ([V.ref b0, .ref b1, .ref b2, .ref b3])[j]? = some (.ref c) → SqT K H c xs → xs.all flatV = true → inV (.int (sv s)) xs = m.alone s → _ := fun j c xs e1 e2 e3 e4 e5 =>
      (⟨_, rfl, _, rfl, t, A.CT, dx, _, _, rfl, ht, T.clT, T.nKind, termF_kind m, b, _, _, _, rfl, rfl, h1, at_of (j := j) (by rw [e1]) e2, c, xs, rfl, .inr e3, rfl, e4, (by rw [if_neg Bool.false_ne_true, e5]; exact q)⟩ :
        tRet (tOp (rIn K false) (tVar 1) (tOp (rIxT K) (tC (.ref b)) (tFld K (tVar 0) "kind"))) { nx := fun _ H' => Q .non H', rt := Q } (L2.start ["self", "side"] [.ref t, .int (sv s)]) H)
    rcases hc with e | e | e | e
    · exact fin 0 b0 [] e rfl h2 rfl (by unfold M.alone; rw [e]; cases s <;> rfl)
    · exact fin 1 b1 [.int 0] e rfl h3 rfl (by unfold M.alone; rw [e]; cases s <;> rfl)
    · exact fin 2 b2 [.int 0, .int 1] e rfl h4 rfl (by unfold M.alone; rw [e]; cases s <;> rfl)
    · exact fin 3 b3 [] e rfl h5 rfl (by unfold M.alone; rw [e]; cases s <;> rfl)
  · obtain ⟨t, m, s, rfl, _⟩ := h
    rfl
theorem scTA3 : FnScope ["self", "side"] ["self", "side"] (defScope (sTerms 3)) := ⟨rfl, rfl, rfl, by decide +kernel, rfl, by decide +kernel, by decide +kernel⟩
theorem ok_once (T : Txt K mg A) : Met P w K mg base CX0 6 A.CT "tells_at_once" (spTA A M.once) := by
  refine met0 (k := 5) T.clT T.mOnce (fun _ _ _ _ _ _ us hl => match us, hl with | [_, _], _ => rfl) scTA3 (fun vs H Q E h => ?_) (fun f cdv Ar outer s H vs Q E hr h => ?_)
  rotate_left
  · refine ⟨_, pss_one (ps_ret (pe_and (pe_cmpR op_eq (pe_fld (pv 0) rfl) pe_int (nomark _)) (pe_one (pe_mt (ok_tellsAlone T) hr (by decide) pass0 (pv 0) (pa_cons (pv 1) pa_nil))))), ?_⟩
    obtain ⟨t, m, s, rfl, ⟨dx, ht⟩, hk, q⟩ := h
    refine ⟨_, rfl, t, A.CT, dx, _, _, rfl, ht, T.clT, T.nEager, termF_eager m, rfl, _, rfl, ?_⟩
    rw [side_right]
    unfold M.once at q
    cases e : m.eager with
    | true =>
      rw [e, Bool.true_and] at q
      exact iteT ⟨_, rfl, t, dx, _, rfl, ht, termF_no m (by decide +kernel) (by decide +kernel) (by decide +kernel) (by decide +kernel), _, rfl, t, m, s, rfl, ⟨dx, ht⟩, hk, q⟩
    | false =>
      rw [e, Bool.false_and] at q
      exact iteF q
  · obtain ⟨t, m, s, rfl, _⟩ := h
    rfl
theorem scTA4 : FnScope ["self", "side"] ["self", "side"] (defScope (sTerms 4)) := ⟨rfl, rfl, rfl, by decide +kernel, rfl, by decide +kernel, by decide +kernel⟩
theorem ok_late (T : Txt K mg A) : Met P w K mg base CX0 6 A.CT "tells_late" (spTA A M.late) := by
  refine met0 (k := 5) T.clT T.mLate (fun _ _ _ _ _ _ us hl => match us, hl with | [_, _], _ => rfl) scTA4 (fun vs H Q E h => ?_) (fun f cdv Ar outer s H vs Q E hr h => ?_)
  rotate_left
  · refine ⟨_, pss_one (ps_ret (pe_and (pe_cmpR op_eq (pe_fld (pv 0) rfl) pe_int (nomark _)) (pe_one (pe_mt (ok_tellsAlone T) hr (by decide) pass0 (pv 0) (pa_cons (pv 1) pa_nil))))), ?_⟩
    obtain ⟨t, m, s, rfl, ⟨dx, ht⟩, hk, q⟩ := h
    refine ⟨_, rfl, t, A.CT, dx, _, _, rfl, ht, T.clT, T.nEager, termF_eager m, rfl, _, rfl, ?_⟩
    rw [side_left]
    unfold M.late at q
    cases e : m.eager with
    | false =>
      rw [e] at q
      exact iteT ⟨_, rfl, t, dx, _, rfl, ht, termF_no m (by decide +kernel) (by decide +kernel) (by decide +kernel) (by decide +kernel), _, rfl, t, m, s, rfl, ⟨dx, ht⟩, hk, q⟩
    | true =>
      rw [e] at q
      exact iteF q
  · obtain ⟨t, m, s, rfl, _⟩ := h
    rfl
theorem scMeet : FnScope ["self", "side", "row", "other"] ["self", "side", "row", "other"] (defScope (sTerms 5)) := ⟨rfl, rfl, rfl, by decide +kernel, rfl, by decide +kernel, by decide +kernel⟩
theorem ok_meet (T : Txt K mg A) : Met P w K mg base CX0 3 A.CT "meet" (spMeet A) := by
  refine met0 (k := 2) T.clT T.mMeet (fun _ _ _ _ _ _ us hl => match us, hl with | [_, _, _, _], _ => rfl) scMeet (fun vs H Q E h => ?_) (fun f cdv Ar outer s H vs Q E hr h => ?_)
  rotate_left
  · refine ⟨_, pss_cons (ps_if (pt_cmpR op_ne (pe_fld (pv 2) rfl) (pe_fld (pv 3) rfl) (nomark _)) (pss_one (ps_ret pe_bl)) pss_nil)
      (pss_cons (ps_if (pt_cmpR op_eq (pv 1) (pe_ic T.LEFT rfl) (nomark _))
        (pss_one (ps_ret (pe_and (pe_cmpR op_le (pe_fld (pv 2) rfl) (pe_op op_add (pe_fld (pv 3) rfl) (pe_fld (pv 0) rfl)) (nomark _)) (pe_one (pe_cmpR op_le (pe_fld (pv 3) rfl) (pe_op op_add (pe_fld (pv 2) rfl) (pe_fld (pv 0) rfl)) (nomark _)))))) pss_nil)
      (pss_one (ps_ret (pe_and (pe_cmpR op_le (pe_fld (pv 3) rfl) (pe_op op_add (pe_fld (pv 2) rfl) (pe_fld (pv 0) rfl)) (nomark _)) (pe_one (pe_cmpR op_le (pe_fld (pv 2) rfl) (pe_op op_add (pe_fld (pv 3) rfl) (pe_fld (pv 0) rfl)) (nomark _))))))), ?_⟩
    obtain ⟨t, a, b, m, s, r, o, rfl, ⟨dt, ht⟩, ⟨da, ha⟩, ⟨db, hb⟩, q⟩ := h
    unfold M.meet at q
    refine ⟨_, rfl, a, A.CR, da, _, _, rfl, ha, T.clR, T.nKey, rowF_key r, _, rfl, b, A.CR, db, _, _, rfl, hb, T.clR, T.nKey, rowF_key o, rfl, _, rfl, ?_⟩
    by_cases k : r.key = o.key
    · rw [decide_eq_true (congrArg nv k)]
      rw [beq_iff_eq.mpr k, Bool.true_and] at q
      refine iteF ⟨_, rfl, rfl, _, rfl, ?_⟩
      rw [side_left]
      cases s with
      | false =>
        refine iteT ⟨_, rfl, a, A.CR, da, _, _, rfl, ha, T.clR, T.nTime, rowF_time r, _, rfl, b, A.CR, db, _, _, rfl, hb, T.clR, T.nTime, rowF_time o, _, rfl, t, A.CT, dt, _, _, rfl, ht, T.clT, T.nAhead, termF_ahead m, _, _, rfl, rfl, _, _, rfl, rfl, _, rfl, ?_⟩
        rw [if_neg (by decide)] at q
        have z1 : decide ((r.t : Int) ≤ (o.t : Int) + (m.ahead : Int)) = decide (r.t ≤ o.t + m.ahead) := decide_eq_decide.mpr (by omega)
        have z2 : decide ((o.t : Int) ≤ (r.t : Int) + (m.after : Int)) = decide (o.t ≤ r.t + m.after) := decide_eq_decide.mpr (by omega)
        show if decide ((r.t : Int) ≤ (o.t : Int) + (m.ahead : Int)) = true then _ else _
        rw [z1]
        rw [← z2] at q
        cases e : decide (r.t ≤ o.t + m.ahead) with
        | true =>
          rw [e, Bool.true_and] at q
          exact iteT ⟨_, rfl, b, A.CR, db, _, _, rfl, hb, T.clR, T.nTime, rowF_time o, _, rfl, a, A.CR, da, _, _, rfl, ha, T.clR, T.nTime, rowF_time r, _, rfl, t, A.CT, dt, _, _, rfl, ht, T.clT, T.nAfter, termF_after m, _, _, rfl, rfl, _, _, rfl, rfl, q⟩
        | false =>
          rw [e, Bool.false_and] at q
          exact iteF q
      | true =>
        refine iteF ⟨_, rfl, b, A.CR, db, _, _, rfl, hb, T.clR, T.nTime, rowF_time o, _, rfl, a, A.CR, da, _, _, rfl, ha, T.clR, T.nTime, rowF_time r, _, rfl, t, A.CT, dt, _, _, rfl, ht, T.clT, T.nAhead, termF_ahead m, _, _, rfl, rfl, _, _, rfl, rfl, _, rfl, ?_⟩
        rw [if_pos rfl] at q
        have z1 : decide ((o.t : Int) ≤ (r.t : Int) + (m.ahead : Int)) = decide (o.t ≤ r.t + m.ahead) := decide_eq_decide.mpr (by omega)
        have z2 : decide ((r.t : Int) ≤ (o.t : Int) + (m.after : Int)) = decide (r.t ≤ o.t + m.after) := decide_eq_decide.mpr (by omega)
        show if decide ((o.t : Int) ≤ (r.t : Int) + (m.ahead : Int)) = true then _ else _
        rw [z1]
        rw [← z2] at q
        cases e : decide (o.t ≤ r.t + m.ahead) with
        | true =>
          rw [e, Bool.true_and] at q
          exact iteT ⟨_, rfl, a, A.CR, da, _, _, rfl, ha, T.clR, T.nTime, rowF_time r, _, rfl, b, A.CR, db, _, _, rfl, hb, T.clR, T.nTime, rowF_time o, _, rfl, t, A.CT, dt, _, _, rfl, ht, T.clT, T.nAfter, termF_after m, _, _, rfl, rfl, _, _, rfl, rfl, q⟩
        | false =>
          rw [e, Bool.false_and] at q
          exact iteF q
    · have kn : ¬ nv r.key = nv o.key := fun z => k (nv_eq.mp (decide_eq_true z))
      rw [decide_eq_false kn]
      rw [beq_eq_false_iff_ne.mpr k, Bool.false_and] at q
      exact iteT q
  · obtain ⟨t, a, b, m, s, r, o, rfl, _⟩ := h
    rfl
theorem scWanted : FnScope ["self", "side", "row", "mark"] ["self", "side", "row", "mark"] (defScope (sTerms 6)) := ⟨rfl, rfl, rfl, by decide +kernel, rfl, by decide +kernel, by decide +kernel⟩
theorem ok_wanted (T : Txt K mg A) : Met P w K mg base CX0 3 A.CT "is_wanted" (spWanted A) := by
  refine met0 (k := 2) T.clT T.mWanted (fun _ _ _ _ _ _ us hl => match us, hl with | [_, _, _, _], _ => rfl) scWanted (fun vs H Q E h => ?_) (fun f cdv Ar outer s H vs Q E hr h => ?_)
  rotate_left
  · refine ⟨_, pss_cons (ps_if (pt_cmpR op_gt (pv 3) (pe_ic T.MOST_TIME rfl) (nomark _)) (pss_one (ps_ret pe_bl)) pss_nil)
      (pss_cons (ps_if (pt_cmpR op_eq (pv 1) (pe_ic T.LEFT rfl) (nomark _))
        (pss_one (ps_ret (pe_cmpR op_le (pv 3) (pe_op op_add (pe_fld (pv 2) rfl) (pe_fld (pv 0) rfl)) (nomark _)))) pss_nil)
      (pss_one (ps_ret (pe_cmpR op_le (pv 3) (pe_op op_add (pe_fld (pv 2) rfl) (pe_fld (pv 0) rfl)) (nomark _))))), ?_⟩
    obtain ⟨t, a, m, s, r, k, rfl, ⟨dt, ht⟩, ⟨da, ha⟩, q⟩ := h
    unfold M.want at q
    refine ⟨_, rfl, _, _, rfl, rfl, _, rfl, ite2 (fun c => ?_) (fun c => ?_)⟩
    · rw [decide_eq_true_eq] at c
      rw [decide_eq_false (by omega : ¬ k ≤ 1000000), Bool.false_and] at q
      exact q
    · rw [decide_eq_true_eq] at c
      rw [decide_eq_true (by omega : k ≤ 1000000), Bool.true_and] at q
      refine ⟨_, rfl, rfl, _, rfl, ?_⟩
      rw [side_left]
      cases s with
      | false =>
        refine iteT ⟨_, rfl, _, rfl, a, A.CR, da, _, _, rfl, ha, T.clR, T.nTime, rowF_time r, _, rfl, t, A.CT, dt, _, _, rfl, ht, T.clT, T.nAfter, termF_after m, _, _, rfl, rfl, _, _, rfl, rfl, ?_⟩
        have z : decide ((k : Int) ≤ (r.t : Int) + (m.after : Int)) = decide (k ≤ r.t + m.after) := decide_eq_decide.mpr (by omega)
        show Q (.bl (decide ((k : Int) ≤ (r.t : Int) + (m.after : Int)))) H
        rw [z]
        exact q
      | true =>
        refine iteF ⟨_, rfl, _, rfl, a, A.CR, da, _, _, rfl, ha, T.clR, T.nTime, rowF_time r, _, rfl, t, A.CT, dt, _, _, rfl, ht, T.clT, T.nAhead, termF_ahead m, _, _, rfl, rfl, _, _, rfl, rfl, ?_⟩
        have z : decide ((k : Int) ≤ (r.t : Int) + (m.ahead : Int)) = decide (k ≤ r.t + m.ahead) := decide_eq_decide.mpr (by omega)
        show Q (.bl (decide ((k : Int) ≤ (r.t : Int) + (m.ahead : Int)))) H
        rw [z]
        exact q
  · obtain ⟨t, a, m, s, r, k, rfl, _⟩ := h
    rfl
end
end JW
/-! ### new terms, a new join, what's told of two -/
namespace JW
open PySem PySem.Spec PyProof.Rows L2
open JM (M)
theorem at_new {H : Hp} {q p : Addr} {o u : HO} (e : H q = some o) (hp : H p = none) : upd H p u q = some o := same_upd hp q o e
theorem at_ne {H : Hp} {q p : Addr} {o u : HO} (e : H q = some o) (n : q ≠ p) : upd H p u q = some o := (upd_ne n).trans e
theorem no_ne {H : Hp} {q p : Addr} {u : HO} (e : upd H p u q = none) : q ≠ p ∧ H q = none := by
  have n : q ≠ p := fun z => by rw [z, upd_same] at e; cases e
  exact ⟨n, by rw [upd_ne n] at e; exact e⟩
theorem lenP {f : Str} {v : V} {fs : List (Str × V)} {n : Nat} (h : fs.length ≤ n) : (putF f v fs).length ≤ n + 1 := Nat.le_trans (length_putF f v fs) (Nat.succ_le_succ h)
def spJoinI (A : Adr) : Sp := fun vs H Q _ => ∃ (p t dx : Addr) (k a b : Nat) (e : Bool), vs = [.ref p, .ref t] ∧ H p = some (.ins A.CJ dx []) ∧ TermsAt A H t (JM.new k a b e) ∧ k ≤ 3 ∧
  ∀ (H' : Hp) (J : JA), Kp (fun b => b = p) H H' → J.j = p → JoinAt A H' J (JM.new k a b e) → (∀ b, Ft J b → b = p ∨ b = t ∨ H b = none) → Q .non H'
def spPair (A : Adr) : Sp := fun vs H Q _ => ∃ (j a b : Addr) (s : Bool) (r o : R), vs = [.ref j, .int (sv s), .ref a, .ref b] ∧ RowAt A H a r ∧ RowAt A H b o ∧ ∀ p, H p = none → Q (.ref p) (upd H p (.tup ((chI (JM.chPair s r o)).map V.int)))
def spToldAt (A : Adr) : Sp := fun vs H Q _ => ∃ (J : JA) (m : M) (a : Addr) (r : R), vs = [.ref J.j, .ref a] ∧ JoinAt A H J m ∧ RowAt A H a r ∧
  ∀ (H' : Hp) (p : Addr), Same H H' → H p = none → H' p = some (.tup ((chI (m.toldAt r)).map V.int)) → Q (.ref p) H'
section
variable {P : Program} {w : World} {K : PySem.W.Frag} {mg : Str → Option Value} {base : Heap} {A : Adr}
theorem scNew : FnScope ["sort", "ahead", "after", "eager"] ["sort", "ahead", "after", "eager"] (defScope sNew) := ⟨rfl, rfl, rfl, by decide +kernel, rfl, by decide +kernel, by decide +kernel⟩
theorem nv0 {a : Nat} : decide (nv a = V.int 0) = true ↔ a = 0 := nv_eq (b := 0)
def tNewRet (A : Adr) : TS := tRet (tMake A.CT (spTermsI A) [] E0 (tCons (tVar 0) (tCons (tVar 1) (tCons (tVar 2) (tCons (tVar 3) tNil)))))
def tNewEnd (K : PySem.W.Frag) (A : Adr) (E : XK) (b : Addr) : TS :=
  tSeq (tDrop (tCall (spAsk A) [] E (tCons (tAndV (tOp qLe (tVar 3) (tC (.int 1))) (tOrV (tOp rEq (tVar 3) (tC (.int 0))) (tOp (rNeD K) (tOp (rIxT K) (tC (.ref b)) (tVar 0)) (tTup tNil)))) (tCons (tC (.int (-3))) tNil)))) (tNewRet A)
theorem ok_new (T : Txt K mg A) : Cal P w K mg base (L2.CX P w) 8 "new_terms" (spNew A) := by
  refine calX (k := 7) T.dNew (fun _ _ _ _ _ _ us hl => match us, hl with | [_, _, _, _], _ => rfl) scNew (fun vs H Q E h => ?_) (fun f cdv Ar outer s H vs Q E hr h => ?_)
  rotate_left
  · obtain ⟨b, b0, b1, b2, b3, hm, hs⟩ := T.tol
    refine ⟨_, pss_cons (ps_expr (pe_c (ok_ask T) hr (by decide) passE (by rfl) (pa_cons (pe_cmpR op_le (pv 0) (pe_ic T.MOMENT rfl) (nomark _)) (pa_cons (pe_ic T.NO_SORT rfl) pa_nil))))
      (pss_cons (ps_expr (pe_c (ok_ask T) hr (by decide) passE (by rfl) (pa_cons (pe_and (pe_cmpR op_le (pv 1) (pe_ic T.MOST_FAR rfl) (nomark _)) (pe_one (pe_cmpR op_le (pv 2) (pe_ic T.MOST_FAR rfl) (nomark _)))) (pa_cons (pe_ic T.BEYOND rfl) pa_nil))))
      (pss_cons (ps_expr (pe_c (ok_ask T) hr (by decide) passE (by rfl) (pa_cons (pe_or (pe_cmpR op_ne (pv 0) (pe_ic T.MOMENT rfl) (nomark _)) (pe_one (pe_and (pe_cmpR op_eq (pv 1) pe_int (nomark _)) (pe_one (pe_cmpR op_eq (pv 2) pe_int (nomark _)))))) (pa_cons (pe_ic T.BEYOND rfl) pa_nil))))
      (pss_cons (ps_expr (pe_c (ok_ask T) hr (by decide) passE (by rfl) (pa_cons (pe_and (pe_cmpR op_le (pv 3) pe_int (nomark _)) (pe_one (pe_or (pe_cmpR op_eq (pv 3) pe_int (nomark _)) (pe_one (pe_cmpR (op_neD hr.units) (pe_ix ix_tup (pe_glob (v := .ref b) rfl hm rfl) (pv 0) (fun _ _ => rfl)) (pe_tup pa_nil) (nomark _)))))) (pa_cons (pe_ic T.NOT_GRANTED rfl) pa_nil))))
      (pss_one (ps_ret (pe_mk (ok_termsI T) hr (by decide) pass0 (by rfl) (pa_cons (pv 0) (pa_cons (pv 1) (pa_cons (pv 2) (pa_cons (pv 3) pa_nil)))))))))), ?_⟩
    obtain ⟨k, a, c, e, rfl, h1, h2⟩ := h
    obtain ⟨t1, t2, t3, t4, t5⟩ := hs H
    -- ask(sort <= MOMENT, NO_SORT)
    refine ⟨_, rfl, _, _, rfl, rfl, _, _, rfl, fun c1 => ?_, fun c1 => h1 _ (if_pos (by rw [decide_eq_false_iff_not] at c1; omega))⟩
    rw [decide_eq_true_eq] at c1
    have n1 : ¬ 3 < k := by omega
    have b1' : beg k a c e = if 100000 < a ∨ 100000 < c then some (-2) else if k = 3 ∧ ¬ (a = 0 ∧ c = 0) then some (-2) else if 1 < e ∨ (e ≠ 0 ∧ (k = 0 ∨ k = 3)) then some (-3) else none := if_neg n1
    -- ask(ahead <= MOST_FAR and after <= MOST_FAR, BEYOND)
    have far : ∀ (g : Bool) (G : Prop), (g = true ↔ a ≤ 100000 ∧ c ≤ 100000) → ((a ≤ 100000 ∧ c ≤ 100000) → G) → (g = true → G) ∧ (g = false → Rais A H E (-2)) := fun g G hg q => by
      refine ⟨fun z => q (hg.mp z), fun z H' d k2 hd => h1 (-2) ?_ H' d k2 hd⟩
      rw [b1', if_pos]
      have : ¬ (a ≤ 100000 ∧ c ≤ 100000) := fun y => by rw [hg.mpr y] at z; cases z
      omega
    suffices more : (a ≤ 100000 ∧ c ≤ 100000) → tSeq (tDrop (tCall (spAsk A) [] E (tCons (tOrV (tOp rNe (tVar 0) (tC (.int 3))) (tAndV (tOp rEq (tVar 1) (tC (.int 0))) (tOp rEq (tVar 2) (tC (.int 0))))) (tCons (tC (.int (-2))) tNil)))) (tNewEnd K A E b)
        { nx := fun _ H' => Q .non H', rt := Q } (L2.start ["sort", "ahead", "after", "eager"] [nv k, nv a, nv c, nv e]) H by
      refine ⟨_, rfl, _, _, rfl, rfl, _, rfl, ite2 (fun c2 => ⟨_, rfl, _, _, rfl, rfl, _, _, rfl, far _ _ ?_ more⟩) (fun c2 => ⟨_, _, rfl, far _ _ ?_ more⟩)⟩
      · rw [decide_eq_true_eq] at c2 ⊢; omega
      · rw [decide_eq_true_eq] at c2
        constructor
        · intro z; cases z
        · intro z; omega
    intro z2
    have b2' : beg k a c e = if k = 3 ∧ ¬ (a = 0 ∧ c = 0) then some (-2) else if 1 < e ∨ (e ≠ 0 ∧ (k = 0 ∨ k = 3)) then some (-3) else none := b1'.trans (if_neg (by omega))
    -- ask(sort != MOMENT or (ahead == 0 and after == 0), BEYOND)
    have wid : ∀ (g : Bool) (G : Prop), (g = true ↔ ¬ (k = 3 ∧ ¬ (a = 0 ∧ c = 0))) → (¬ (k = 3 ∧ ¬ (a = 0 ∧ c = 0)) → G) → (g = true → G) ∧ (g = false → Rais A H E (-2)) := fun g G hg q => by
      refine ⟨fun z => q (hg.mp z), fun z H' d k2 hd => h1 (-2) ?_ H' d k2 hd⟩
      rw [b2', if_pos]
      refine Classical.byContradiction fun y => ?_
      rw [hg.mpr y] at z
      cases z
    have last : ¬ (k = 3 ∧ ¬ (a = 0 ∧ c = 0)) → tNewEnd K A E b { nx := fun _ H' => Q .non H', rt := Q } (L2.start ["sort", "ahead", "after", "eager"] [nv k, nv a, nv c, nv e]) H := fun z3 => by
      have b3' : beg k a c e = if 1 < e ∨ (e ≠ 0 ∧ (k = 0 ∨ k = 3)) then some (-3) else none := b2'.trans (if_neg z3)
      -- ask(eager <= 1 and (eager == 0 or TOLD_ALONE[sort] != ()), NOT_GRANTED)
      have fin : ¬ (1 < e ∨ (e ≠ 0 ∧ (k = 0 ∨ k = 3))) → ∀ H1, Same H H1 → tNewRet A { nx := fun _ H' => Q .non H', rt := Q } (L2.start ["sort", "ahead", "after", "eager"] [nv k, nv a, nv c, nv e]) H1 := fun z4 H1 k1 => by
        refine ⟨_, rfl, _, rfl, _, rfl, _, rfl, fun x dx nx nd ne => ?_⟩
        have ee : nv e = .int (sv (e == 1)) := by
          have : e = 0 ∨ e = 1 := by omega
          rcases this with rfl | rfl <;> rfl
        refine ⟨x, dx, k, a, c, (e == 1), by rw [← ee] <;> rfl, upd_same, rfl, ?_⟩
        refine h2 (b3'.trans (if_neg z4)) _ x (k1.trans fun b o eb => ?_) (k1.free nx) ⟨dx, upd_same⟩
        rw [upd_upd, upd_ne (ne_of_none eb nx), upd_ne (ne_of_none eb nd)]
        exact eb
      have ask3 : ∀ (g : Bool) (H1 : Hp), (g = true ↔ ¬ (1 < e ∨ (e ≠ 0 ∧ (k = 0 ∨ k = 3)))) → Same H H1 → (g = true → tNewRet A { nx := fun _ H' => Q .non H', rt := Q } (L2.start ["sort", "ahead", "after", "eager"] [nv k, nv a, nv c, nv e]) H1) ∧ (g = false → Rais A H1 E (-3)) := fun g H1 hg k1 => by
        refine ⟨fun z => fin (hg.mp z) H1 k1, fun z H' d k2 hd => h1 (-3) ?_ H' d (k1.trans k2) hd⟩
        rw [b3', if_pos]
        refine Classical.byContradiction fun y => ?_
        rw [hg.mpr y] at z
        cases z
      refine ⟨_, rfl, _, _, rfl, rfl, _, rfl, ite2 (fun c4 => ⟨_, rfl, rfl, _, rfl, ite2 (fun c5 => ⟨_, _, rfl, ask3 _ _ ?_ (Same.refl _)⟩) (fun c5 => ?_)⟩) (fun c4 => ⟨_, _, rfl, ask3 _ _ ?_ (Same.refl _)⟩)⟩
      · have z5 := nv0.mp c5
        constructor
        · intro _; omega
        · intro _; rfl
      · have z5 : ¬ e = 0 := fun z => c5 (nv0.mpr z)
        rw [decide_eq_true_eq] at c4
        have ix : ∀ (j : Nat) (q : Addr) (xs : List V) (ds : List PyData) (g : Bool), k = j → ([V.ref b0, .ref b1, .ref b2, .ref b3])[j]? = some (.ref q) → SqT K H q xs → (∀ H1, DpAll K H1 xs ds) → SeqAt.shaped (.tuple ds) = true → (!PyData.eqv (.tuple ds) (.tuple [])) = g → (g = true ↔ ¬ (j = 0 ∨ j = 3)) → _ :=
          fun j q xs ds g e1 e2 e3 e4 e5 e6 e7 => (⟨_, rfl, b, _, _, _, rfl, rfl, t1, at_of (j := j) (by rw [e1]) e2, (by show 0 ≤ sizeLine; decide), fun n hn => ⟨.tuple ds, .tuple [], .tup (by
            rcases e3 with (y | ⟨o, y⟩) | y
            · exact SqT.of (same_upd hn _ _ y)
            · exact .inl (.inr ⟨o, same_upd hn _ _ y⟩)
            · exact .inr y) (e4 _), .tup (SqT.of upd_same) .nil, e5, by decide, by rw [e6]; exact ⟨_, _, rfl, ask3 g _ (by rw [e7]; omega) (same_upd hn)⟩⟩⟩ :
            tOp (rNeD K) (tOp (rIxT K) (tC (.ref b)) (tVar 0)) (tTup tNil) (L2.start ["sort", "ahead", "after", "eager"] [nv k, nv a, nv c, nv e]) H (fun x H1 => spAsk A ([x, .int (-3)] ++ []) H1 (fun _ H' => tNewRet A { nx := fun _ H' => Q .non H', rt := Q } (L2.start ["sort", "ahead", "after", "eager"] [nv k, nv a, nv c, nv e]) H') E))
        have hc : k = 0 ∨ k = 1 ∨ k = 2 ∨ k = 3 := by omega
        rcases hc with y | y | y | y
        · exact ix 0 b0 [] [] false y rfl t2 (fun _ => .nil) rfl rfl (by simp)
        · exact ix 1 b1 [.int 0] [.int 0] true y rfl t3 (fun _ => .cons (.int 0) .nil) rfl rfl (by simp)
        · exact ix 2 b2 [.int 0, .int 1] [.int 0, .int 1] true y rfl t4 (fun _ => .cons (.int 0) (.cons (.int 1) .nil)) rfl rfl (by simp)
        · exact ix 3 b3 [] [] false y rfl t5 (fun _ => .nil) rfl rfl (by simp)
      · rw [decide_eq_true_eq] at c4
        constructor
        · intro z; cases z
        · intro z; omega
    refine ⟨_, rfl, rfl, _, rfl, ite2 (fun c3 => ⟨_, _, rfl, wid _ _ ?_ last⟩) (fun c3 => ⟨_, rfl, rfl, _, rfl, ite2 (fun c4 => ⟨_, rfl, rfl, _, _, rfl, wid _ _ ?_ last⟩) (fun c4 => ⟨_, _, rfl, wid _ _ ?_ last⟩)⟩)⟩
    · have e3 : ¬ k = 3 := fun z => by
        rw [kind3, decide_eq_true z] at c3
        cases c3
      constructor
      · intro _; omega
      · intro _; rfl
    · have e3 : k = 3 := Classical.byContradiction fun z => c3 (by rw [kind3, decide_eq_false z] <;> rfl)
      have a0 := nv0.mp c4
      constructor
      · intro z
        have c0 := nv0.mp z
        omega
      · intro z
        exact nv0.mpr (by omega)
    · have e3 : k = 3 := Classical.byContradiction fun z => c3 (by rw [kind3, decide_eq_false z] <;> rfl)
      have a0 : ¬ a = 0 := fun z => c4 (nv0.mpr z)
      constructor
      · intro z; cases z
      · intro z; omega
  · obtain ⟨k, a, c, e, rfl, _⟩ := h
    rfl
end
end JW
/-! ### a new join; pairs; meeting -/
namespace JW
open PySem PySem.Spec PyProof.Rows L2
open JM (M)
theorem joinF_new (t pm pt pk pv : Addr) : putF "versions" (.ref pv) (putF "aside" (.int 0) (putF "kept" (.ref pk) (putF "taken" (.ref pt) (putF "marks" (.ref pm) (putF "terms" (.ref t) []))))) =
    ([("terms", .ref t), ("marks", .ref pm), ("taken", .ref pt), ("kept", .ref pk), ("aside", .int 0), ("versions", .ref pv)] : List (Str × V)) := by
  have e1 : putF "terms" (.ref t) [] = ([("terms", .ref t)] : List (Str × V)) := rfl
  have e2 : putF "marks" (.ref pm) ([("terms", .ref t)] : List (Str × V)) = ([("terms", .ref t), ("marks", .ref pm)] : List (Str × V)) := (put_past (by decide +kernel)).trans rfl
  have e3 : putF "taken" (.ref pt) ([("terms", .ref t), ("marks", .ref pm)] : List (Str × V)) = ([("terms", .ref t), ("marks", .ref pm), ("taken", .ref pt)] : List (Str × V)) :=
    (put_past (by decide +kernel)).trans (congrArg _ ((put_past (by decide +kernel)).trans rfl))
  have e4 : putF "kept" (.ref pk) ([("terms", .ref t), ("marks", .ref pm), ("taken", .ref pt)] : List (Str × V)) = ([("terms", .ref t), ("marks", .ref pm), ("taken", .ref pt), ("kept", .ref pk)] : List (Str × V)) :=
    (put_past (by decide +kernel)).trans (congrArg _ ((put_past (by decide +kernel)).trans (congrArg _ ((put_past (by decide +kernel)).trans rfl))))
  have e5 : putF "aside" (.int 0) ([("terms", .ref t), ("marks", .ref pm), ("taken", .ref pt), ("kept", .ref pk)] : List (Str × V)) = ([("terms", .ref t), ("marks", .ref pm), ("taken", .ref pt), ("kept", .ref pk), ("aside", .int 0)] : List (Str × V)) :=
    (put_past (by decide +kernel)).trans (congrArg _ ((put_past (by decide +kernel)).trans (congrArg _ ((put_past (by decide +kernel)).trans (congrArg _ ((put_past (by decide +kernel)).trans rfl))))))
  have e6 : putF "versions" (.ref pv) ([("terms", .ref t), ("marks", .ref pm), ("taken", .ref pt), ("kept", .ref pk), ("aside", .int 0)] : List (Str × V)) =
      ([("terms", .ref t), ("marks", .ref pm), ("taken", .ref pt), ("kept", .ref pk), ("aside", .int 0), ("versions", .ref pv)] : List (Str × V)) :=
    (put_past (by decide +kernel)).trans (congrArg _ ((put_past (by decide +kernel)).trans (congrArg _ ((put_past (by decide +kernel)).trans (congrArg _ ((put_past (by decide +kernel)).trans (congrArg _ ((put_past (by decide +kernel)).trans rfl))))))))
  rw [e1, e2, e3, e4, e5, e6]
theorem kp_step {p : Addr} {H H' : Hp} {o : HO} (k : Kp (fun b => b = p) H H') : Kp (fun b => b = p) H (upd H' p o) := k.trans (Kp.upd rfl)
theorem kp_new {p q : Addr} {H H' : Hp} {o : HO} (k : Kp (fun b => b = p) H H') (h : H' q = none) : Kp (fun b => b = p) H (upd H' q o) := k.trans (Kp.of (same_upd h))
/-- what is not there now was not there before -/
theorem kp_free {p q : Addr} {H H' : Hp} {o : HO} (k : Kp (fun b => b = p) H H') (hp : H' p = some o) (h : H' q = none) : H q = none := by
  cases e : H q with
  | none => rfl
  | some u =>
    have n : q ≠ p := fun z => by rw [z, hp] at h; cases h
    rw [k q u e n] at h
    cases h
section
variable {P : Program} {w : World} {K : PySem.W.Frag} {mg : Str → Option Value} {base : Heap} {A : Adr}
theorem scJoinI : FnScope ["self", "terms"] ["self", "terms"] (defScope (sJoin 0)) := ⟨rfl, rfl, rfl, by decide +kernel, rfl, by decide +kernel, by decide +kernel⟩
theorem ok_joinI (T : Txt K mg A) : Mak P w K mg base CX0 3 "Join" A.CJ (spJoinI A) := by
  refine mak0 (k := 2) T.iJoin (fun _ _ _ _ _ _ us hl => match us, hl with | [_, _], _ => rfl) scJoinI (fun vs H Q E h => ?_) (fun f cdv Ar outer s H vs Q E hr h => ?_)
  rotate_left
  · refine ⟨_, pss_cons (ps_fld (pv 0) (pv 1) rfl) (pss_cons (ps_fld (pv 0) (pe_lst (pa_cons pe_int (pa_cons pe_int pa_nil))) rfl) (pss_cons (ps_fld (pv 0) (pe_lst (pa_cons pe_int (pa_cons pe_int pa_nil))) rfl)
      (pss_cons (ps_fld (pv 0) (pe_lst (pa_cons (pe_lst pa_nil) (pa_cons (pe_lst pa_nil) pa_nil))) rfl) (pss_cons (ps_fld (pv 0) pe_int rfl) (pss_one (ps_fld (pv 0) (pe_lst pa_nil) rfl)))))), ?_⟩
    obtain ⟨p, t, dx, k, a, b, e, rfl, hp, ⟨dt, ht⟩, hk, q⟩ := h
    have tp : t ≠ p := ne_of ht hp fun z => by
      injection z with _ _ e3
      have e4 := congrArg List.length e3
      cases e4
    have k0 : Kp (fun b => b = p) H H := Kp.refl
    -- self.terms
    refine ⟨_, rfl, _, rfl, p, A.CJ, dx, _, rfl, hp, T.clJ, T.nTerms, (by show 0 < 1000; decide), ?_⟩
    generalize f1 : putF ("terms" : Str) (.ref t) [] = F1
    have l1 : F1.length ≤ 1 := by rw [← f1]; exact lenP (Nat.le_refl 0)
    have k1 := kp_step (o := .ins A.CJ dx F1) k0
    have p1 : upd H p (.ins A.CJ dx F1) p = some (.ins A.CJ dx F1) := upd_same
    generalize upd H p (.ins A.CJ dx F1) = H1 at k1 p1 ⊢
    -- self.marks
    refine ⟨by show 2 ≤ sizeLine; decide, fun pm hm => ?_⟩
    have mp : pm ≠ p := fun z => by rw [z, p1] at hm; cases hm
    refine ⟨_, rfl, p, A.CJ, dx, _, rfl, at_new p1 hm, T.clJ, T.nMarks, Nat.lt_of_le_of_lt l1 (by decide), ?_⟩
    generalize f2 : putF ("marks" : Str) (.ref pm) F1 = F2
    have l2 : F2.length ≤ 2 := by rw [← f2]; exact lenP l1
    have k2 := kp_step (o := .ins A.CJ dx F2) (kp_new (o := .lst [.int 0, .int 0]) k1 hm)
    have p2 : upd (upd H1 pm (.lst [.int 0, .int 0])) p (.ins A.CJ dx F2) p = some (.ins A.CJ dx F2) := upd_same
    have m2 : upd (upd H1 pm (.lst [.int 0, .int 0])) p (.ins A.CJ dx F2) pm = some (.lst [.int 0, .int 0]) := at_ne upd_same mp
    generalize upd (upd H1 pm (.lst [.int 0, .int 0])) p (.ins A.CJ dx F2) = H2 at k2 p2 m2 ⊢
    -- self.taken
    refine ⟨by show 2 ≤ sizeLine; decide, fun pt hn => ?_⟩
    have np : pt ≠ p := fun z => by rw [z, p2] at hn; cases hn
    have nm : pt ≠ pm := fun z => by rw [z, m2] at hn; cases hn
    refine ⟨_, rfl, p, A.CJ, dx, _, rfl, at_new p2 hn, T.clJ, T.nTaken, Nat.lt_of_le_of_lt l2 (by decide), ?_⟩
    generalize f3 : putF ("taken" : Str) (.ref pt) F2 = F3
    have l3 : F3.length ≤ 3 := by rw [← f3]; exact lenP l2
    have k3 := kp_step (o := .ins A.CJ dx F3) (kp_new (o := .lst [.int 0, .int 0]) k2 hn)
    have p3 : upd (upd H2 pt (.lst [.int 0, .int 0])) p (.ins A.CJ dx F3) p = some (.ins A.CJ dx F3) := upd_same
    have m3 : upd (upd H2 pt (.lst [.int 0, .int 0])) p (.ins A.CJ dx F3) pm = some (.lst [.int 0, .int 0]) := at_ne (at_new m2 hn) mp
    have n3 : upd (upd H2 pt (.lst [.int 0, .int 0])) p (.ins A.CJ dx F3) pt = some (.lst [.int 0, .int 0]) := at_ne upd_same np
    have hm0 : H pm = none := kp_free k1 p1 hm
    have hn0 : H pt = none := kp_free k2 p2 hn
    generalize upd (upd H2 pt (.lst [.int 0, .int 0])) p (.ins A.CJ dx F3) = H3 at k3 p3 m3 n3 ⊢
    -- self.kept
    refine ⟨by show 0 ≤ sizeLine; decide, fun q0 h0 => ?_⟩
    refine ⟨by show 0 ≤ sizeLine; decide, fun q1 h1 => ?_⟩
    refine ⟨by show 2 ≤ sizeLine; decide, fun pk hk2 => ?_⟩
    have z0 : H q0 = none := kp_free k3 p3 h0
    have k4 := kp_new (o := .lst []) k3 h0
    have p4 := at_new (u := .lst []) p3 h0
    have m4 := at_new (u := .lst []) m3 h0
    have n4 := at_new (u := .lst []) n3 h0
    have a4 : upd H3 q0 (.lst []) q0 = some (.lst []) := upd_same
    generalize upd H3 q0 (.lst []) = H4 at k4 p4 m4 n4 a4 h1 hk2 ⊢
    have z1 : H q1 = none := kp_free k4 p4 h1
    have k5 := kp_new (o := .lst []) k4 h1
    have p5 := at_new (u := .lst []) p4 h1
    have m5 := at_new (u := .lst []) m4 h1
    have n5 := at_new (u := .lst []) n4 h1
    have a5 := at_new (u := .lst []) a4 h1
    have b5 : upd H4 q1 (.lst []) q1 = some (.lst []) := upd_same
    have d01 : q0 ≠ q1 := ne_of_none a4 h1
    have d0m : q0 ≠ pm := fun z => by rw [z, m3] at h0; cases h0
    have d0n : q0 ≠ pt := fun z => by rw [z, n3] at h0; cases h0
    have d0p : q0 ≠ p := fun z => by rw [z, p3] at h0; cases h0
    have d1m : q1 ≠ pm := fun z => by rw [z, m4] at h1; cases h1
    have d1n : q1 ≠ pt := fun z => by rw [z, n4] at h1; cases h1
    have d1p : q1 ≠ p := fun z => by rw [z, p4] at h1; cases h1
    generalize upd H4 q1 (.lst []) = H5 at k5 p5 m5 n5 a5 b5 hk2 ⊢
    have zk : H pk = none := kp_free k5 p5 hk2
    have dkm : pk ≠ pm := fun z => by rw [z, m5] at hk2; cases hk2
    have dkn : pk ≠ pt := fun z => by rw [z, n5] at hk2; cases hk2
    have dkp : pk ≠ p := fun z => by rw [z, p5] at hk2; cases hk2
    have dk0 : pk ≠ q0 := fun z => by rw [z, a5] at hk2; cases hk2
    have dk1 : pk ≠ q1 := fun z => by rw [z, b5] at hk2; cases hk2
    refine ⟨_, rfl, p, A.CJ, dx, _, rfl, at_new p5 hk2, T.clJ, T.nKept, Nat.lt_of_le_of_lt l3 (by decide), ?_⟩
    generalize f4 : putF ("kept" : Str) (.ref pk) F3 = F4
    have l4 : F4.length ≤ 4 := by rw [← f4]; exact lenP l3
    have k6 := kp_step (o := .ins A.CJ dx F4) (kp_new (o := .lst [.ref q0, .ref q1]) k5 hk2)
    have p6 : upd (upd H5 pk (.lst [.ref q0, .ref q1])) p (.ins A.CJ dx F4) p = some (.ins A.CJ dx F4) := upd_same
    have m6 : upd (upd H5 pk (.lst [.ref q0, .ref q1])) p (.ins A.CJ dx F4) pm = some (.lst [.int 0, .int 0]) := at_ne (at_new m5 hk2) mp
    have n6 : upd (upd H5 pk (.lst [.ref q0, .ref q1])) p (.ins A.CJ dx F4) pt = some (.lst [.int 0, .int 0]) := at_ne (at_new n5 hk2) np
    have a6 : upd (upd H5 pk (.lst [.ref q0, .ref q1])) p (.ins A.CJ dx F4) q0 = some (.lst []) := at_ne (at_new a5 hk2) d0p
    have b6 : upd (upd H5 pk (.lst [.ref q0, .ref q1])) p (.ins A.CJ dx F4) q1 = some (.lst []) := at_ne (at_new b5 hk2) d1p
    have c6 : upd (upd H5 pk (.lst [.ref q0, .ref q1])) p (.ins A.CJ dx F4) pk = some (.lst [.ref q0, .ref q1]) := at_ne upd_same dkp
    generalize upd (upd H5 pk (.lst [.ref q0, .ref q1])) p (.ins A.CJ dx F4) = H6 at k6 p6 m6 n6 a6 b6 c6 ⊢
    -- self.aside
    refine ⟨_, rfl, p, A.CJ, dx, _, rfl, p6, T.clJ, T.nAside, Nat.lt_of_le_of_lt l4 (by decide), ?_⟩
    generalize f5 : putF ("aside" : Str) (.int 0) F4 = F5
    have l5 : F5.length ≤ 5 := by rw [← f5]; exact lenP l4
    have k7 := kp_step (o := .ins A.CJ dx F5) k6
    have p7 : upd H6 p (.ins A.CJ dx F5) p = some (.ins A.CJ dx F5) := upd_same
    have m7 : upd H6 p (.ins A.CJ dx F5) pm = _ := at_ne m6 mp
    have n7 : upd H6 p (.ins A.CJ dx F5) pt = _ := at_ne n6 np
    have a7 : upd H6 p (.ins A.CJ dx F5) q0 = _ := at_ne a6 d0p
    have b7 : upd H6 p (.ins A.CJ dx F5) q1 = _ := at_ne b6 d1p
    have c7 : upd H6 p (.ins A.CJ dx F5) pk = _ := at_ne c6 dkp
    generalize upd H6 p (.ins A.CJ dx F5) = H7 at k7 p7 m7 n7 a7 b7 c7 ⊢
    -- self.versions
    refine ⟨by show 0 ≤ sizeLine; decide, fun pv' hv => ?_⟩
    have zv : H pv' = none := kp_free k7 p7 hv
    have dvm : pv' ≠ pm := fun z => by rw [z, m7] at hv; cases hv
    have dvn : pv' ≠ pt := fun z => by rw [z, n7] at hv; cases hv
    have dvp : pv' ≠ p := fun z => by rw [z, p7] at hv; cases hv
    have dv0 : pv' ≠ q0 := fun z => by rw [z, a7] at hv; cases hv
    have dv1 : pv' ≠ q1 := fun z => by rw [z, b7] at hv; cases hv
    have dvk : pv' ≠ pk := fun z => by rw [z, c7] at hv; cases hv
    refine ⟨_, rfl, p, A.CJ, dx, _, rfl, at_new p7 hv, T.clJ, T.nVersions, Nat.lt_of_le_of_lt l5 (by decide), ?_⟩
    have k8 := kp_step (o := .ins A.CJ dx (putF "versions" (.ref pv') F5)) (kp_new (o := .lst []) k7 hv)
    have fF : putF "versions" (.ref pv') F5 = ([("terms", .ref t), ("marks", .ref pm), ("taken", .ref pt), ("kept", .ref pk), ("aside", .int 0), ("versions", .ref pv')] : List (Str × V)) := by
      rw [← f5, ← f4, ← f3, ← f2, ← f1]
      exact joinF_new t pm pt pk pv'
    refine q _ ⟨p, dx, t, pm, pt, pk, pv', fun s => if s = true then q1 else q0, fun _ => [], []⟩ k8 rfl ?_ ?_
    · refine ⟨hk, ?_, ⟨dt, k8 t _ ht tp⟩, at_ne (at_new m7 hv) mp, at_ne (at_new n7 hv) np, at_ne (at_new c7 hv) dkp, fun s => ?_, fun s => RowsAt.nil, at_ne upd_same dvp, RowsAt.nil, ?_, List.nodup_nil⟩
      · rw [fF]
        exact upd_same
      · cases s with
        | false => exact at_ne (at_new a7 hv) d0p
        | true => exact at_ne (at_new b7 hv) d1p
      · simp only [List.nodup_cons, List.mem_cons, List.not_mem_nil, or_false, not_or, not_false_eq_true, List.nodup_nil, and_true]
        exact ⟨⟨nm.symm, dkm.symm, dvm.symm, d0m.symm, d1m.symm⟩, ⟨dkn.symm, dvn.symm, d0n.symm, d1n.symm⟩, ⟨dvk.symm, dk0, dk1⟩, ⟨dv0, dv1⟩, d01⟩
    · intro b fb
      rcases fb with rfl | rfl | rfl | rfl | rfl | rfl | ⟨s, rfl⟩ | ⟨s, hb⟩ | hb
      · exact .inl rfl
      · exact .inr (.inl rfl)
      · exact .inr (.inr hm0)
      · exact .inr (.inr hn0)
      · exact .inr (.inr zk)
      · exact .inr (.inr zv)
      · cases s with
        | false => exact .inr (.inr z0)
        | true => exact .inr (.inr z1)
      · cases hb
      · cases hb
  · obtain ⟨p, t, dx, k, a, b, e, rfl, _⟩ := h
    rfl
theorem scPair : FnScope ["self", "side", "row", "other"] ["self", "side", "row", "other"] (defScope (sJoin 1)) := ⟨rfl, rfl, rfl, by decide +kernel, rfl, by decide +kernel, by decide +kernel⟩
theorem ok_pair (T : Txt K mg A) : Met P w K mg base CX0 3 A.CJ "pair" (spPair A) := by
  refine met0 (k := 2) T.clJ T.mPair (fun _ _ _ _ _ _ us hl => match us, hl with | [_, _, _, _], _ => rfl) scPair (fun vs H Q E h => ?_) (fun f cdv Ar outer s H vs Q E hr h => ?_)
  rotate_left
  · refine ⟨_, pss_cons (ps_if (pt_cmpR op_eq (pv 1) (pe_ic T.LEFT rfl) (nomark _)) (pss_one (ps_ret (pe_tup (pa_cons (pe_ic T.TOLD rfl) (pa_cons (pe_fld (pv 2) rfl) (pa_cons (pe_fld (pv 3) rfl) pa_nil)))))) pss_nil)
      (pss_one (ps_ret (pe_tup (pa_cons (pe_ic T.TOLD rfl) (pa_cons (pe_fld (pv 3) rfl) (pa_cons (pe_fld (pv 2) rfl) pa_nil)))))), ?_⟩
    obtain ⟨j, a, b, s, r, o, rfl, ⟨da, ha⟩, ⟨db, hb⟩, q⟩ := h
    refine ⟨_, rfl, rfl, _, rfl, ?_⟩
    rw [side_left]
    cases s with
    | false =>
      exact iteT ⟨_, rfl, a, A.CR, da, _, _, rfl, ha, T.clR, T.nNumber, rowF_number r, _, rfl, b, A.CR, db, _, _, rfl, hb, T.clR, T.nNumber, rowF_number o, (by show 3 ≤ sizeLine; decide), fun p hp => q p hp⟩
    | true =>
      exact iteF ⟨_, rfl, b, A.CR, db, _, _, rfl, hb, T.clR, T.nNumber, rowF_number o, _, rfl, a, A.CR, da, _, _, rfl, ha, T.clR, T.nNumber, rowF_number r, (by show 3 ≤ sizeLine; decide), fun p hp => q p hp⟩
  · obtain ⟨j, a, b, s, r, o, rfl, _⟩ := h
    rfl
theorem scToldAt : FnScope ["self", "row", "version"] ["self", "row"] (defScope (sJoin 4)) := ⟨rfl, rfl, rfl, by decide +kernel, rfl, by decide +kernel, by decide +kernel⟩
theorem ok_toldAt (T : Txt K mg A) : Met P w K mg base CX0 9 A.CJ "told_at" (spToldAt A) := by
  refine met0 (k := 8) T.clJ T.mToldAt (fun _ _ _ _ _ _ us hl => match us, hl with | [_, _], _ => rfl) scToldAt (fun vs H Q E h => ?_) (fun f cdv Ar outer s H vs Q E hr h => ?_)
  rotate_left
  · refine ⟨_, pss_cons (ps_set (i := 2) scToldAt.nd rfl (.inl rfl) (pe_c (ok_holding T) hr (by decide) pass0 (by rfl) (pa_cons (pe_fld (pv 0) rfl) (pa_cons (pe_fld (pv 1) rfl) (pa_cons (pe_fld (pv 1) rfl) pa_nil)))))
      (pss_cons (ps_if (pt_cmpR op_isN (pv 2) pe_non (nomark _)) (pss_one (ps_ret (pe_c (ok_alone T) hr (by decide) pass0 (by rfl) (pa_cons (pe_ic T.TOLD rfl) (pa_cons (pe_ic T.LEFT rfl) (pa_cons (pv 1) pa_nil)))))) pss_nil)
      (pss_one (ps_ret (pe_mt (ok_pair T) hr (by decide) pass0 (pv 0) (pa_cons (pe_ic T.LEFT rfl) (pa_cons (pv 1) (pa_cons (pv 2) pa_nil))))))), ?_⟩
    obtain ⟨J, m, a, r, rfl, hJ, ⟨da, ha⟩, q⟩ := h
    refine ⟨_, rfl, J.j, A.CJ, J.dj, _, _, rfl, hJ.hj, T.clJ, T.nVersions, joinF_versions J _, _, rfl, a, A.CR, da, _, _, rfl, ha, T.clR, T.nKey, rowF_key r, _, rfl, a, A.CR, da, _, _, rfl, ha, T.clR, T.nTime, rowF_time r, ?_⟩
    refine ⟨J.pv, J.va, m.vers, r.key, r.t, rfl, hJ.hv, hJ.hw, fun H1 v k1 hv => ?_⟩
    unfold M.toldAt at q
    rcases hv with ⟨e, rfl⟩ | ⟨b, y, e, rfl, hb⟩
    · rw [e] at q
      refine ⟨_, rfl, rfl, _, rfl, iteT ⟨_, rfl, true, false, a, r, rfl, ⟨da, k1 _ _ ha⟩, fun p hp => ?_⟩⟩
      exact q _ p (k1.trans (same_upd hp)) (k1.free hp) upd_same
    · rw [e] at q
      refine ⟨_, rfl, rfl, _, rfl, iteF ⟨_, rfl, J.j, J.dj, _, rfl, k1 _ _ hJ.hj, joinF_no J _ (by decide +kernel) (by decide +kernel) (by decide +kernel) (by decide +kernel) (by decide +kernel) (by decide +kernel), _, rfl, _, rfl, J.j, a, b, false, r, y, rfl, ⟨da, k1 _ _ ha⟩, hb, fun p hp => ?_⟩⟩
      exact q _ p (k1.trans (same_upd hp)) (k1.free hp) upd_same
  · obtain ⟨J, m, a, r, rfl, _⟩ := h
    rfl
end
end JW
/-! ### a row meets the kept ones -/
namespace JW
open PySem PySem.Spec PyProof.Rows L2
open JM (M)
section
variable {A : Adr} {H H' : Hp} {J : JA} {m : M} {a p : Addr} {r : R}
theorem JoinAt.rowJ (h : JoinAt A H J m) (q : RowAt A H a r) : a ≠ J.j := fun z => by
  obtain ⟨d, e⟩ := q
  rw [z, h.hj] at e
  injection e with e
  injection e with _ _ e3
  have e4 := congrArg (List.lookup ("terms" : Str)) e3
  rw [joinF_terms] at e4
  have e5 : (rowF r).lookup ("terms" : Str) = none := (lk_past (by decide +kernel)).trans ((lk_past (by decide +kernel)).trans ((lk_past (by decide +kernel)).trans ((lk_past (by decide +kernel)).trans rfl)))
  rw [e5] at e4
  cases e4
theorem JoinAt.rowT (h : JoinAt A H J m) (q : RowAt A H a r) : a ≠ J.t := fun z => by
  obtain ⟨d, e⟩ := q
  obtain ⟨d', e'⟩ := h.ht
  rw [z, e'] at e
  injection e with e
  injection e with _ _ e3
  have e4 := congrArg (List.lookup ("kind" : Str)) e3
  rw [termF_kind] at e4
  have e5 : (rowF r).lookup ("kind" : Str) = none := (lk_past (by decide +kernel)).trans ((lk_past (by decide +kernel)).trans ((lk_past (by decide +kernel)).trans ((lk_past (by decide +kernel)).trans rfl)))
  rw [e5] at e4
  cases e4
theorem JoinAt.raN (h : JoinAt A H J m) (s : Bool) : (J.ra s).Nodup := by
  have n := h.nr
  rw [List.nodup_append, List.nodup_append] at n
  cases s
  · exact n.1
  · exact n.2.1.1
theorem JoinAt.raD (h : JoinAt A H J m) {s s' : Bool} (n : s ≠ s') {b : Addr} (hb : b ∈ J.ra s) : b ∉ J.ra s' := fun hb' => by
  have z := h.nr
  rw [List.nodup_append] at z
  have d := z.2.2
  cases s <;> cases s'
  · exact n rfl
  · exact d b hb b (List.mem_append_left _ hb') rfl
  · exact d b hb' b (List.mem_append_left _ hb) rfl
  · exact n rfl
theorem JoinAt.raV (h : JoinAt A H J m) {s : Bool} {b : Addr} (hb : b ∈ J.ra s) : b ∉ J.va := fun hb' => by
  have z := h.nr
  rw [List.nodup_append, List.nodup_append] at z
  cases s
  · exact z.2.2 b hb b (List.mem_append_right _ hb') rfl
  · exact z.2.1.2.2 b hb b hb' rfl
/-- a row of the list is written -/
theorem RowsAt.set {as : List Addr} {rs : List R} {i : Nat} {b dx : Addr} {r' : R} (h : RowsAt A H as rs) (nd : as.Nodup) (e : as[i]? = some b) : RowsAt A (L2.upd H b (.ins A.CR dx (rowF r'))) as (rs.set i r') := by
  refine ⟨by rw [List.length_set]; exact h.1, fun k c x e1 e2 => ?_⟩
  by_cases hk : k = i
  · subst hk
    have ec : b = c := Option.some.inj (e.symm.trans e1)
    subst ec
    have hlt : k < rs.length := by rw [← h.1]; exact (List.getElem?_eq_some_iff.mp e).1
    rw [List.getElem?_set_self hlt] at e2
    cases e2
    exact ⟨dx, upd_same⟩
  · rw [List.getElem?_set_ne (Ne.symm hk)] at e2
    obtain ⟨d, q⟩ := h.2 k c x e1 e2
    have n : c ≠ b := fun z => by
      subst z
      exact hk (nd_ix nd e1 e)
    exact ⟨d, by rw [upd_ne n]; exact q⟩
end
theorem meet_touch (m : M) (s c : Bool) (r o : R) : m.meet s (JM.touch c r) o = m.meet s r o := by
  unfold JM.touch
  cases c <;> rfl
theorem pair_touch (s c : Bool) (r o : R) : JM.chPair s (JM.touch c r) o = JM.chPair s r o := by
  unfold JM.touch
  cases c <;> rfl
theorem touch_touch (c : Bool) (r : R) : ({ JM.touch c r with met := true } : R) = JM.touch true r := by
  unfold JM.touch
  cases c <;> rfl
theorem touch_or (c d : Bool) (r : R) (h : d = false) : JM.touch (c || d) r = JM.touch c r := by rw [h, Bool.or_false]
theorem any_take {α : Type} {l : List α} {i : Nat} {x : α} (p : α → Bool) (h : l[i]? = some x) : (l.take (i + 1)).any p = ((l.take i).any p || p x) := by
  rw [take_more h, List.any_append]
  simp
theorem flat_take {α β : Type} {l : List α} {i : Nat} {x : α} (f : α → List β) (h : l[i]? = some x) : (l.take (i + 1)).flatMap f = (l.take i).flatMap f ++ f x := by
  rw [take_more h, List.flatMap_append]
  simp
/-- done so far, not yet done -/
def part (f : R → R) (l : List R) (i : Nat) : List R := (l.take i).map f ++ l.drop i
theorem part_get {f : R → R} {l : List R} {i : Nat} {x : R} (h : l[i]? = some x) : (part f l i)[i]? = some x := by
  have hi : i < l.length := (List.getElem?_eq_some_iff.mp h).1
  unfold part
  rw [List.getElem?_append_right (by rw [List.length_map, List.length_take]; omega), List.length_map, List.length_take, Nat.min_eq_left (Nat.le_of_lt hi), Nat.sub_self, List.getElem?_drop]
  exact h
theorem part_next {f : R → R} {l : List R} {i : Nat} {x : R} (h : l[i]? = some x) : (part f l i).set i (f x) = part f l (i + 1) := by
  have hi : i < l.length := (List.getElem?_eq_some_iff.mp h).1
  unfold part
  rw [List.set_append_right _ _ (by rw [List.length_map, List.length_take]; omega), List.length_map, List.length_take, Nat.min_eq_left (Nat.le_of_lt hi), Nat.sub_self, take_more h, List.map_append, List.append_assoc]
  refine congrArg _ ?_
  have e : l.drop i = x :: l.drop (i + 1) := by
    rw [List.drop_eq_getElem_cons hi]
    have : l[i] = x := (List.getElem?_eq_some_iff.mp h).2
    rw [this]
  rw [e]
  rfl
theorem part_all {f : R → R} {l : List R} : part f l l.length = l.map f := by
  unfold part
  rw [List.take_length, List.drop_length, List.append_nil]
theorem part_zero {f : R → R} {l : List R} : part f l 0 = l := by
  unfold part
  simp
def spMeetAll (A : Adr) : Sp := fun vs H Q _ => ∃ (J : JA) (m : M) (s : Bool) (a : Addr) (r : R), vs = [.ref J.j, .int (sv s), .ref a] ∧ JoinAt A H J m ∧ RowAt A H a r ∧ a ∉ J.ra (!s) ∧ JM.Sz 1000 m ∧
  ∀ (H' : Hp) (p : Addr) (as : List Addr), Kp (fun b => b = a ∨ b ∈ J.ra (!s)) H H' → H p = none → H' p = some (.lst (refs as)) → ChAt H' as (m.metAll s r) → RowAt A H' a (JM.touch (m.metAny s r) r) → RowsAt A H' (J.ra (!s)) (m.touched s r) → Q (.ref p) H'
/-- between the turns -/
structure MI (A : Adr) (H : Hp) (J : JA) (s : Bool) (r : R) (a p : Addr) (H' : Hp) (as : List Addr) (cs : List Chg) (c : Bool) (rs : List R) : Prop where
  kp : Kp (fun b => b = a ∨ b ∈ J.ra (!s)) H H'
  hp : H' p = some (.lst (refs as))
  ch : ChAt H' as cs
  ra : RowAt A H' a (JM.touch c r)
  rr : RowsAt A H' (J.ra (!s)) rs
section
variable {A : Adr} {H H' : Hp} {J : JA} {s c : Bool} {r : R} {a p q : Addr} {as : List Addr} {cs : List Chg} {rs : List R} {ch : Chg}
/-- one change more is told -/
theorem MI.push (h : MI A H J s r a p H' as cs c rs) (h0 : H p = none) (hq : H' q = none) :
    MI A H J s r a p (upd (upd H' q (.tup ((chI ch).map V.int))) p (.lst (refs as ++ [.ref q]))) (as ++ [q]) (cs ++ [ch]) c rs := by
  have s1 := same_upd (o := .tup ((chI ch).map V.int)) hq
  have pq : p ≠ q := ne_of_none h.hp hq
  have hp1 : upd H' q (.tup ((chI ch).map V.int)) p = some (.lst (refs as)) := at_new h.hp hq
  have k1 : ∀ {b : Addr} {x : R}, RowAt A H' b x → RowAt A (upd (upd H' q (.tup ((chI ch).map V.int))) p (.lst (refs as ++ [.ref q]))) b x := fun {b x} z =>
    (z.same s1).at fun o e => at_ne e ((z.same s1).ne hp1)
  refine ⟨fun b o e n => ?_, ?_, ?_, k1 h.ra, ⟨h.rr.1, fun i b x e1 e2 => k1 (h.rr.2 i b x e1 e2)⟩⟩
  · exact at_ne (at_new (h.kp b o e n) hq) (ne_of_none e h0)
  · rw [upd_same]
    unfold refs
    rw [List.map_append]
    rfl
  · exact ((h.ch.same s1).upd hp1 fun xs z => by cases z).snoc (at_ne upd_same pq.symm)
/-- both have met -/
theorem MI.met {i : Nat} {b db da : Addr} {o : R} (h : MI A H J s r a p H' as cs c rs) (hb : (J.ra (!s))[i]? = some b) (nd : (J.ra (!s)).Nodup) (na : a ∉ J.ra (!s)) (ho : H' b = some (.ins A.CR db (rowF o))) (ha : H' a = some (.ins A.CR da (rowF (JM.touch c r)))) :
    MI A H J s r a p (upd (upd H' b (.ins A.CR db (rowF { o with met := true }))) a (.ins A.CR da (rowF (JM.touch true r)))) as cs true (rs.set i { o with met := true }) := by
  have bm : b ∈ J.ra (!s) := List.mem_of_getElem? hb
  have ab : a ≠ b := fun z => na (by rw [z]; exact bm)
  have pb : p ≠ b := ne_of h.hp ho (by intro z; cases z)
  have pa : p ≠ a := ne_of h.hp ha (by intro z; cases z)
  refine ⟨fun x o' e n => ?_, at_ne (at_ne h.hp pb) pa, ?_, ⟨da, upd_same⟩, ?_⟩
  · exact at_ne (at_ne (h.kp x o' e n) fun z => n (.inr (by rw [z]; exact bm))) fun z => n (.inl z)
  · exact (h.ch.upd ho fun xs z => by cases z).upd (at_ne ha ab) fun xs z => by cases z
  · exact (h.rr.set nd hb).upd fun x hx (z : x = a) => na (by rw [← z]; exact hx)
end
section
variable {P : Program} {w : World} {K : PySem.W.Frag} {mg : Str → Option Value} {base : Heap} {A : Adr}
theorem ix_side (f : Bool → V) (s : Bool) : atI [f false, f true] (sv s) = some (f s) := by
  cases s
  · exact at_of (j := 0) rfl rfl
  · exact at_of (j := 1) rfl rfl
theorem scMeetAll : FnScope ["self", "side", "row", "found", "there", "other"] ["self", "side", "row"] (defScope (sJoin 2)) := ⟨rfl, rfl, rfl, by decide +kernel, rfl, by decide +kernel, by decide +kernel⟩
theorem ok_meetAll (T : Txt K mg A) : Met P w K mg base CX0 9 A.CJ "meet_all" (spMeetAll A) := by
  refine met0 (k := 8) T.clJ T.mMeetAll (fun _ _ _ _ _ _ us hl => match us, hl with | [_, _, _], _ => rfl) scMeetAll (fun vs H Q E h => ?_) (fun f cdv Ar outer s H vs Q E hr h => ?_)
  rotate_left
  · refine ⟨_, pss_cons (ps_set (i := 3) scMeetAll.nd rfl (.inl rfl) (pe_lst pa_nil)) (pss_cons (ps_set (i := 4) scMeetAll.nd rfl (.inl rfl) (pe_c (ok_other T) hr (by decide) pass0 (by rfl) (pa_cons (pv 1) pa_nil)))
      (pss_cons (ps_for PassesOwn.never rfl (pi_list (pe_ix ix_list (pe_fld (pv 0) rfl) (pv 4) (fun _ _ => rfl))) (pg_name (i := 5) scMeetAll.nd rfl (.inl rfl))
        (pss_one (ps_if (pt_val (pe_mt (ok_meet T) hr (by decide) pass0 (pe_fld (pv 0) rfl) (pa_cons (pv 1) (pa_cons (pv 2) (pa_cons (pv 5) pa_nil)))))
          (pss_cons (ps_if (PW.pt (pw_and (pt_not (pt_val (pe_fld (pv 5) rfl))) (pw_and1 (pt_val (pe_mt (ok_once T) hr (by decide) pass0 (pe_fld (pv 0) rfl) (pa_cons (pv 4) pa_nil))))))
              (pss_one (ps_expr (pe_bm PySem.F.plainAttrs_list PySem.F.slot_list_append PySem.F.type_list_append mt_append (pv 3) (pa_cons (pe_c (ok_alone T) hr (by decide) pass0 (by rfl) (pa_cons (pe_ic T.TAKEN_BACK rfl) (pa_cons (pv 4) (pa_cons (pv 5) pa_nil)))) pa_nil)))) pss_nil)
          (pss_cons (ps_expr (pe_bm PySem.F.plainAttrs_list PySem.F.slot_list_append PySem.F.type_list_append mt_append (pv 3) (pa_cons (pe_mt (ok_pair T) hr (by decide) pass0 (pv 0) (pa_cons (pv 1) (pa_cons (pv 2) (pa_cons (pv 5) pa_nil)))) pa_nil)))
          (pss_cons (ps_fld (pv 5) pe_bl rfl) (pss_one (ps_fld (pv 2) pe_bl rfl)))))
          pss_nil)))
      (pss_one (ps_ret (pv 3))))), ?_⟩
    obtain ⟨J, m, s, a, r, rfl, hJ, ha, na, hz, q⟩ := h
    refine ⟨by show 0 ≤ sizeLine; decide, fun p hp => ?_⟩
    have s0 := same_upd (o := .lst []) hp
    have J0 := hJ.same s0
    refine ⟨_, rfl, s, rfl, ?_⟩
    have kz := hz.1 (!s)
    have lz : ∀ i, ((m.kept (!s)).take i).length ≤ 1000 := fun i => by rw [List.length_take]; omega
    refine ⟨_, rfl, J.j, A.CJ, J.dj, _, _, rfl, J0.hj, T.clJ, T.nKept, joinF_kept J _, _, rfl, J.pk, _, _, _, rfl, rfl, SqL.of J0.hk, ix_side (fun b => .ref (J.k b)) (!s), ?_⟩
    have jn : ∀ b, b = a ∨ b ∈ J.ra (!s) → b ≠ J.j ∧ b ≠ J.t ∧ ∀ x, b ≠ J.k x := fun b hb => by
      rcases hb with rfl | hb
      · exact ⟨hJ.rowJ ha, hJ.rowT ha, fun x => ha.ne (hJ.hl x)⟩
      · obtain ⟨_, _, z⟩ := (hJ.hr (!s)).mem hb
        exact ⟨hJ.rowJ z, hJ.rowT z, fun x => z.ne (hJ.hl x)⟩
    have kj : ∀ {H' : Hp}, Kp (fun b => b = a ∨ b ∈ J.ra (!s)) H H' → H' J.j = some (.ins A.CJ J.dj (joinF J m.aside)) := fun k => k _ _ hJ.hj fun z => (jn _ z).1 rfl
    have kt : ∀ {H' : Hp}, Kp (fun b => b = a ∨ b ∈ J.ra (!s)) H H' → TermsAt A H' J.t m := fun k => hJ.ht.at fun o e => k _ o e fun z => (jn _ z).2.1 rfl
    have kl : ∀ {H' : Hp}, Kp (fun b => b = a ∨ b ∈ J.ra (!s)) H H' → H' (J.k (!s)) = some (.lst (refs (J.ra (!s)))) := fun k => k _ _ (hJ.hl (!s)) fun z => (jn _ z).2.2 _ rfl
    refine ⟨J.k (!s), rfl, ⟨_, SqL.of (J0.hl (!s))⟩, for_list (K := K) (a := J.k (!s)) (xs := refs (J.ra (!s)))
      (fun i σ H' => ∃ (v5 : Option V) (as : List Addr), σ = [some (.ref J.j), some (.int (sv s)), some (.ref a), some (.ref p), some (.int (sv (!s))), v5] ∧
        MI A H J s r a p H' as (((m.kept (!s)).take i).flatMap (m.chOne s r)) (((m.kept (!s)).take i).any (m.meet s r)) (part (fun o => JM.touch (m.meet s r o) o) (m.kept (!s)) i))
      ⟨none, [], rfl, Kp.of s0, upd_same, ChAt.nil, ha.same s0, by rw [part_zero]; exact J0.hr (!s)⟩ (fun i σ H' _ ⟨_, _, _, I⟩ => SqL.of (kl I.kp)) ?_ ?_⟩
    · rintro i x σ H' hx ⟨v5, as, rfl, I⟩
      obtain ⟨b, eb, rfl⟩ := refs_get hx
      obtain ⟨o, eo, hb0⟩ := (hJ.hr (!s)).get eb
      have hb := I.rr.2 i b o eb (part_get eo)
      obtain ⟨db, hb⟩ := hb
      obtain ⟨da, haa⟩ := I.ra
      obtain ⟨dt, htt⟩ := kt I.kp
      refine ⟨_, rfl, J.j, A.CJ, J.dj, _, _, rfl, kj I.kp, T.clJ, T.nTerms, joinF_terms J _, J.t, dt, _, rfl, htt, termF_no m (by decide +kernel) (by decide +kernel) (by decide +kernel) (by decide +kernel), _, rfl, _, rfl, _, rfl, J.t, a, b, m, s, _, o, rfl, ⟨dt, htt⟩, ⟨da, haa⟩, ⟨db, hb⟩, _, rfl, ?_⟩
      rw [meet_touch]
      have n1 := flat_take (m.chOne s r) eo
      have n2 := any_take (m.meet s r) eo
      have n3 := part_next (f := fun o => JM.touch (m.meet s r o) o) eo
      cases em : m.meet s r o with
      | false =>
        refine iteF ⟨some (.ref b), as, rfl, ?_⟩
        have e1 : m.chOne s r o = [] := by unfold M.chOne; rw [em] <;> rfl
        rw [n1, n2, e1, List.append_nil, em, Bool.or_false, ← n3]
        have e2 : JM.touch (m.meet s r o) o = o := by rw [em] <;> rfl
        rw [e2]
        have e3 : (part (fun o => JM.touch (m.meet s r o) o) (m.kept (!s)) i).set i o = part (fun o => JM.touch (m.meet s r o) o) (m.kept (!s)) i := by
          refine List.ext_getElem? fun k => ?_
          by_cases hk : k = i
          · subst hk
            rw [List.getElem?_set_self (List.getElem?_eq_some_iff.mp (part_get eo)).1, part_get eo]
          · rw [List.getElem?_set_ne (Ne.symm hk)]
        rw [e3]
        exact I
      | true =>
        refine iteT ?_
        have e1 : m.chOne s r o = (if (!o.met && m.once (!s)) = true then [JM.chAlone false (!s) o] else []) ++ [JM.chPair s r o] := by unfold M.chOne; rw [em] <;> rfl
        have e2 : JM.touch (m.meet s r o) o = { o with met := true } := by rw [em] <;> rfl
        -- behind the taking back: the two are told, both have met
        have rest : ∀ (H2 : Hp) (as2 : List Addr) (cs2 : List Chg), MI A H J s r a p H2 as2 cs2 (((m.kept (!s)).take i).any (m.meet s r)) (part (fun o => JM.touch (m.meet s r o) o) (m.kept (!s)) i) → cs2.length ≤ 2500 →
            cs2 ++ [JM.chPair s r o] = ((m.kept (!s)).take (i + 1)).flatMap (m.chOne s r) →
            tSeq (tDrop (tBM K "list" rAppend (tVar 3) (tCons (tMeth A.CJ "pair" (spPair A) [] E0 (tVar 0) (tCons (tVar 1) (tCons (tVar 2) (tCons (tVar 5) tNil)))) tNil)))
              (tSeq (sFld K (tVar 5) (tC (.bl true)) "has_met") (sFld K (tVar 2) (tC (.bl true)) "has_met"))
              { nx := fun σ H' => ∃ (v5 : Option V) (as : List Addr), σ = [some (.ref J.j), some (.int (sv s)), some (.ref a), some (.ref p), some (.int (sv (!s))), v5] ∧
                  MI A H J s r a p H' as (((m.kept (!s)).take (i + 1)).flatMap (m.chOne s r)) (((m.kept (!s)).take (i + 1)).any (m.meet s r)) (part (fun o => JM.touch (m.meet s r o) o) (m.kept (!s)) (i + 1)), rt := Q,
                bk := fun _ _ => False, ct := fun _ _ => False }
              [some (.ref J.j), some (.int (sv s)), some (.ref a), some (.ref p), some (.int (sv (!s))), some (.ref b)] H2 := fun H2 as2 cs2 I2 hlen hcs => by
          obtain ⟨db2, hb2⟩ := I2.rr.2 i b o eb (part_get eo)
          obtain ⟨da2, ha2⟩ := I2.ra
          refine ⟨_, rfl, .inl ⟨rfl, _, SqL.of I2.hp⟩, _, rfl, J.j, J.dj, _, rfl, kj I2.kp, joinF_no J _ (by decide +kernel) (by decide +kernel) (by decide +kernel) (by decide +kernel) (by decide +kernel) (by decide +kernel), _, rfl, _, rfl, _, rfl, J.j, a, b, s, _, o, rfl, ⟨da2, ha2⟩, ⟨db2, hb2⟩, fun n hn => ?_⟩
          rw [pair_touch]
          have I3 := I2.push (ch := JM.chPair s r o) hp hn
          refine ⟨p, _, _, rfl, rfl, at_new I2.hp hn, ?_, ?_⟩
          · refine line_lt' ?_
            unfold refs
            rw [List.length_map, I2.ch.1]
            omega
          obtain ⟨db3, hb3⟩ := I3.rr.2 i b o eb (part_get eo)
          obtain ⟨da3, ha3⟩ := I3.ra
          refine ⟨_, rfl, b, A.CR, db3, _, rfl, hb3, T.clR, T.nMet, (by show 4 < 1000; decide), ?_⟩
          have ab : a ≠ b := fun z => na (by rw [z]; exact List.mem_of_getElem? eb)
          refine ⟨_, rfl, a, A.CR, da3, _, rfl, at_ne ha3 ab, T.clR, T.nMet, (by show 4 < 1000; decide), ?_⟩
          have I4 := I3.met eb (hJ.raN (!s)) na hb3 ha3
          rw [rowF_put, rowF_put, touch_touch]
          refine ⟨some (.ref b), as2 ++ [n], rfl, ?_⟩
          rw [← hcs, n2, em, Bool.or_true, ← n3, e2]
          exact I4
        have len0 : (((m.kept (!s)).take i).flatMap (m.chOne s r)).length ≤ 2000 := by
          have z := JM.flat_len (JM.chOne_len m s r) ((m.kept (!s)).take i)
          have z2 := lz i
          omega
        refine ⟨_, rfl, b, A.CR, db, _, _, rfl, hb, T.clR, T.nMet, rowF_met o, _, rfl, ?_⟩
        have skip : (!o.met && m.once (!s)) = false → ∀ H2, H2 = H' → tSeq (tDrop (tBM K "list" rAppend (tVar 3) (tCons (tMeth A.CJ "pair" (spPair A) [] E0 (tVar 0) (tCons (tVar 1) (tCons (tVar 2) (tCons (tVar 5) tNil)))) tNil)))
              (tSeq (sFld K (tVar 5) (tC (.bl true)) "has_met") (sFld K (tVar 2) (tC (.bl true)) "has_met"))
              { nx := fun σ H' => ∃ (v5 : Option V) (as : List Addr), σ = [some (.ref J.j), some (.int (sv s)), some (.ref a), some (.ref p), some (.int (sv (!s))), v5] ∧
                  MI A H J s r a p H' as (((m.kept (!s)).take (i + 1)).flatMap (m.chOne s r)) (((m.kept (!s)).take (i + 1)).any (m.meet s r)) (part (fun o => JM.touch (m.meet s r o) o) (m.kept (!s)) (i + 1)), rt := Q,
                bk := fun _ _ => False, ct := fun _ _ => False }
              [some (.ref J.j), some (.int (sv s)), some (.ref a), some (.ref p), some (.int (sv (!s))), some (.ref b)] H2 := fun e H2 eH => by
          subst eH
          refine rest H2 as _ I (by omega) ?_
          rw [n1, e1, e]
          rfl
        cases eo2 : o.met with
        | true => exact iteF (iteF (skip (by rw [eo2] <;> rfl) _ rfl))
        | false =>
          refine iteT ⟨_, rfl, J.j, A.CJ, J.dj, _, _, rfl, kj I.kp, T.clJ, T.nTerms, joinF_terms J _, J.t, dt, _, rfl, htt, termF_no m (by decide +kernel) (by decide +kernel) (by decide +kernel) (by decide +kernel), _, rfl, J.t, m, (!s), rfl, ⟨dt, htt⟩, hJ.kind, _, rfl, ?_⟩
          cases eon : m.once (!s) with
          | false => exact iteF (skip (by rw [eo2, eon] <;> rfl) _ rfl)
          | true =>
            refine iteT ⟨_, rfl, .inl ⟨rfl, _, SqL.of I.hp⟩, _, rfl, _, rfl, false, (!s), b, o, rfl, ⟨db, hb⟩, fun n hn => ?_⟩
            have I3 := I.push (ch := JM.chAlone false (!s) o) hp hn
            refine ⟨p, _, _, rfl, rfl, at_new I.hp hn, ?_, ?_⟩
            · refine line_lt' ?_
              unfold refs
              rw [List.length_map, I.ch.1]
              omega
            refine rest _ _ _ I3 ?_ ?_
            · rw [List.length_append]
              show _ + 1 ≤ 2500
              omega
            · rw [n1, e1, eo2, eon, List.append_assoc]
              rfl
    · rintro σ H' ⟨v5, as, rfl, I⟩
      have e0 : (refs (J.ra (!s))).length = (m.kept (!s)).length := by unfold refs; rw [List.length_map]; exact (hJ.hr (!s)).1
      rw [e0, List.take_length, part_all] at I
      exact ⟨_, rfl, q H' p as I.kp hp I.hp I.ch I.ra I.rr⟩
  · obtain ⟨J, m, s, a, r, rfl, _⟩ := h
    rfl
end
end JW
/-! ### a row comes to meet, or at a moment -/
namespace JW
open PySem PySem.Spec PyProof.Rows L2
open JM (M)
theorem nd_put {x y z : List Addr} {a : Addr} (h : (x ++ (y ++ z)).Nodup) (hx : a ∉ x) (hy : a ∉ y) (hz : a ∉ z) : ((x ++ [a]) ++ (y ++ z)).Nodup ∧ (x ++ ((y ++ [a]) ++ z)).Nodup ∧ (x ++ (y ++ (z ++ [a]))).Nodup := by
  have n : (a :: (x ++ (y ++ z))).Nodup := List.nodup_cons.mpr ⟨by simp [hx, hy, hz], h⟩
  refine ⟨?_, ?_, ?_⟩
  · have e : (x ++ [a]) ++ (y ++ z) = x ++ a :: (y ++ z) := by simp
    rw [e]
    exact List.perm_middle.nodup_iff.mpr n
  · have e : x ++ ((y ++ [a]) ++ z) = (x ++ y) ++ a :: z := by simp
    rw [e]
    refine List.perm_middle.nodup_iff.mpr ?_
    rw [List.append_assoc]
    exact n
  · have e : x ++ (y ++ (z ++ [a])) = (x ++ (y ++ z)) ++ a :: [] := by simp
    rw [e]
    refine List.perm_middle.nodup_iff.mpr ?_
    rw [List.append_nil]
    exact n
theorem refs_snoc (as : List Addr) (a : Addr) : refs as ++ [.ref a] = refs (as ++ [a]) := by
  unfold refs
  rw [List.map_append]
  rfl
theorem ne_not (s : Bool) : s ≠ !s := by cases s <;> decide
section
variable {A : Adr} {H H' : Hp} {J : JA} {m : M} {a p : Addr} {r : R}
/-- a row more is kept -/
theorem JoinAt.addKept (h : JoinAt A H J m) (q : RowAt A H a r) (na : ¬ Ft J a) (s : Bool) :
    JoinAt A (upd H (J.k s) (.lst (refs (J.ra s) ++ [.ref a]))) { J with ra := JM.up J.ra s (J.ra s ++ [a]) } { m with kept := JM.up m.kept s (m.kept s ++ [r]) } := by
  obtain ⟨⟨_, _, _, a4⟩, ⟨_, _, b3⟩, ⟨_, c2⟩, d, _⟩ := h.six
  refine ⟨h.kind, at_ne h.hj (h.jlst (h.hl s)), ?_, at_ne h.hm (a4 s), at_ne h.hn (b3 s), at_ne h.hk (c2 s), fun s' => ?_, fun s' => ?_, at_ne h.hv (d s), h.hw.upd (h.hw.ne (h.hl s)), h.nl, ?_⟩
  · obtain ⟨d, e⟩ := h.ht
    exact ⟨d, at_ne e (h.tlst (h.hl s))⟩
  · show upd H (J.k s) _ (J.k s') = some (.lst (refs (JM.up J.ra s (J.ra s ++ [a]) s')))
    by_cases c : s' = s
    · subst c
      rw [upd_same, JM.up_same, refs_snoc]
    · rw [JM.up_ne c]
      exact at_ne (h.hl s') (h.kne c)
  · show RowsAt A _ (JM.up J.ra s (J.ra s ++ [a]) s') (JM.up m.kept s (m.kept s ++ [r]) s')
    by_cases c : s' = s
    · subst c
      rw [JM.up_same, JM.up_same]
      refine ((h.hr s').upd ((h.hr s').ne (h.hl s'))).snoc ?_
      exact q.at fun o e => at_ne e (q.ne (h.hl s'))
    · rw [JM.up_ne c, JM.up_ne c]
      exact (h.hr s').upd ((h.hr s').ne (h.hl s))
  · have z := nd_put h.nr (fun y => na (Ft.ra y)) (fun y => na (Ft.ra y)) (fun y => na (Ft.va y))
    cases s with
    | false => exact z.1
    | true => exact z.2.1
theorem ft_addKept {s : Bool} {b : Addr} (f : Ft { J with ra := JM.up J.ra s (J.ra s ++ [a]) } b) : Ft J b ∨ b = a := by
  rcases f with e | e | e | e | e | e | ⟨s', e⟩ | ⟨s', e⟩ | e
  · exact .inl (.inl e)
  · exact .inl (.inr (.inl e))
  · exact .inl (.inr (.inr (.inl e)))
  · exact .inl (.inr (.inr (.inr (.inl e))))
  · exact .inl (.inr (.inr (.inr (.inr (.inl e)))))
  · exact .inl (.inr (.inr (.inr (.inr (.inr (.inl e))))))
  · exact .inl (by rw [e]; exact Ft.k s')
  · have e : b ∈ JM.up J.ra s (J.ra s ++ [a]) s' := e
    by_cases c : s' = s
    · subst c
      rw [JM.up_same] at e
      rcases List.mem_append.mp e with e | e
      · exact .inl (Ft.ra e)
      · exact .inr (List.mem_singleton.mp e)
    · rw [JM.up_ne c] at e
      exact .inl (Ft.ra e)
  · exact .inl (Ft.va e)
/-- a version more -/
theorem JoinAt.addVers (h : JoinAt A H J m) (q : RowAt A H a r) (na : ¬ Ft J a) :
    JoinAt A (upd H J.pv (.lst (refs J.va ++ [.ref a]))) { J with va := J.va ++ [a] } { m with vers := m.vers ++ [r] } := by
  obtain ⟨⟨_, _, a3, _⟩, ⟨_, b2, _⟩, ⟨c1, _⟩, d, _⟩ := h.six
  refine ⟨h.kind, at_ne h.hj (h.jlst h.hv), ?_, at_ne h.hm a3, at_ne h.hn b2, at_ne h.hk c1, fun s' => at_ne (h.hl s') (d s').symm, fun s' => (h.hr s').upd ((h.hr s').ne h.hv), ?_, ?_, h.nl, ?_⟩
  · obtain ⟨d, e⟩ := h.ht
    exact ⟨d, at_ne e (h.tlst h.hv)⟩
  · show upd H J.pv _ J.pv = some (.lst (refs (J.va ++ [a])))
    rw [upd_same, refs_snoc]
  · refine (h.hw.upd (h.hw.ne h.hv)).snoc ?_
    exact q.at fun o e => at_ne e (q.ne h.hv)
  · exact (nd_put h.nr (fun y => na (Ft.ra y)) (fun y => na (Ft.ra y)) (fun y => na (Ft.va y))).2.2
theorem ft_addVers {b : Addr} (f : Ft { J with va := J.va ++ [a] } b) : Ft J b ∨ b = a := by
  rcases f with e | e | e | e | e | e | ⟨s', e⟩ | ⟨s', e⟩ | e
  · exact .inl (.inl e)
  · exact .inl (.inr (.inl e))
  · exact .inl (.inr (.inr (.inl e)))
  · exact .inl (.inr (.inr (.inr (.inl e))))
  · exact .inl (.inr (.inr (.inr (.inr (.inl e)))))
  · exact .inl (.inr (.inr (.inr (.inr (.inr (.inl e))))))
  · exact .inl (by rw [e]; exact Ft.k s')
  · exact .inl (Ft.ra e)
  · rcases List.mem_append.mp e with e | e
    · exact .inl (Ft.va e)
    · exact .inr (List.mem_singleton.mp e)
/-- another list of kept ones -/
theorem JoinAt.newKept {as : List Addr} {rs : List R} (h : JoinAt A H J m) (hp : H p = some (.lst (refs as))) (np : ¬ Ft J p) (s : Bool) (hr : RowsAt A H as rs) (sub : as.Sublist (J.ra s)) :
    JoinAt A (upd H J.pk (.lst [.ref (JM.up J.k s p false), .ref (JM.up J.k s p true)])) { J with k := JM.up J.k s p, ra := JM.up J.ra s as } { m with kept := JM.up m.kept s rs } := by
  obtain ⟨⟨a1, a2, a3, a4⟩, ⟨b1, b2, b3⟩, ⟨c1, c2⟩, d, e1⟩ := h.six
  have n1 : p ≠ J.pm := fun z => np (z ▸ Ft.pm)
  have n2 : p ≠ J.pt := fun z => np (z ▸ Ft.pt)
  have n3 : p ≠ J.pk := fun z => np (z ▸ Ft.pk)
  have n4 : p ≠ J.pv := fun z => np (z ▸ Ft.pv)
  have n5 : ∀ s', p ≠ J.k s' := fun s' z => np (z ▸ Ft.k s')
  refine ⟨h.kind, at_ne h.hj (h.jlst h.hk), ?_, at_ne h.hm a2, at_ne h.hn b1, upd_same, fun s' => ?_, fun s' => ?_, at_ne h.hv c1.symm, h.hw.upd (h.hw.ne h.hk), ?_, ?_⟩
  · obtain ⟨d, e⟩ := h.ht
    exact ⟨d, at_ne e (h.tlst h.hk)⟩
  · show upd H J.pk _ (JM.up J.k s p s') = some (.lst (refs (JM.up J.ra s as s')))
    by_cases c : s' = s
    · subst c
      rw [JM.up_same, JM.up_same]
      exact at_ne hp n3
    · rw [JM.up_ne c, JM.up_ne c]
      exact at_ne (h.hl s') (c2 s').symm
  · show RowsAt A _ (JM.up J.ra s as s') (JM.up m.kept s rs s')
    by_cases c : s' = s
    · subst c
      rw [JM.up_same, JM.up_same]
      exact hr.upd (hr.ne h.hk)
    · rw [JM.up_ne c, JM.up_ne c]
      exact (h.hr s').upd ((h.hr s').ne h.hk)
  · show [J.pm, J.pt, J.pk, J.pv, JM.up J.k s p false, JM.up J.k s p true].Nodup
    have u : ∀ {x : Addr}, (∀ s', x ≠ J.k s') → p ≠ x → ∀ s', x ≠ JM.up J.k s p s' := fun {x} h1 h2 s' => by
      by_cases c : s' = s
      · subst c
        rw [JM.up_same]
        exact h2.symm
      · rw [JM.up_ne c]
        exact h1 s'
    have v : JM.up J.k s p false ≠ JM.up J.k s p true := by
      cases s with
      | false =>
        rw [JM.up_same, JM.up_ne (by decide)]
        exact n5 true
      | true =>
        rw [JM.up_same, JM.up_ne (by decide)]
        exact (n5 false).symm
    simp only [List.nodup_cons, List.mem_cons, not_or, List.not_mem_nil, not_false_eq_true, List.nodup_nil, and_true]
    exact ⟨⟨a1, a2, a3, u a4 n1 _, u a4 n1 _⟩, ⟨b1, b2, u b3 n2 _, u b3 n2 _⟩, ⟨c1, u c2 n3 _, u c2 n3 _⟩, ⟨u d n4 _, u d n4 _⟩, v⟩
  · show (JM.up J.ra s as false ++ (JM.up J.ra s as true ++ J.va)).Nodup
    refine List.Nodup.sublist ?_ h.nr
    refine List.Sublist.append ?_ (List.Sublist.append ?_ (List.Sublist.refl _))
    · cases s with
      | false => rw [JM.up_same]; exact sub
      | true => rw [JM.up_ne (by decide)]; exact List.Sublist.refl _
    · cases s with
      | false => rw [JM.up_ne (by decide)]; exact List.Sublist.refl _
      | true => rw [JM.up_same]; exact sub
theorem ft_newKept {as : List Addr} {s : Bool} {b : Addr} (sub : as.Sublist (J.ra s)) (f : Ft { J with k := JM.up J.k s p, ra := JM.up J.ra s as } b) : Ft J b ∨ b = p := by
  rcases f with e | e | e | e | e | e | ⟨s', e⟩ | ⟨s', e⟩ | e
  · exact .inl (.inl e)
  · exact .inl (.inr (.inl e))
  · exact .inl (.inr (.inr (.inl e)))
  · exact .inl (.inr (.inr (.inr (.inl e))))
  · exact .inl (.inr (.inr (.inr (.inr (.inl e)))))
  · exact .inl (.inr (.inr (.inr (.inr (.inr (.inl e))))))
  · have e : b = JM.up J.k s p s' := e
    by_cases c : s' = s
    · subst c
      rw [JM.up_same] at e
      exact .inr e
    · rw [JM.up_ne c] at e
      exact .inl (by rw [e]; exact Ft.k s')
  · have e : b ∈ JM.up J.ra s as s' := e
    by_cases c : s' = s
    · subst c
      rw [JM.up_same] at e
      exact .inl (Ft.ra (sub.subset e))
    · rw [JM.up_ne c] at e
      exact .inl (Ft.ra e)
  · exact .inl (Ft.va e)
/-- rows of one side are written -/
theorem JoinAt.touchRows {rs : List R} {s : Bool} (h : JoinAt A H J m) (k : Kp (fun b => b = a ∨ b ∈ J.ra s) H H') (na : ¬ Ft J a) (hr : RowsAt A H' (J.ra s) rs) : JoinAt A H' J { m with kept := JM.up m.kept s rs } := by
  have kl : ∀ {b : Addr} {xs : List V}, Ft J b → H b = some (.lst xs) → H' b = some (.lst xs) := fun {b xs} f e => k _ _ e fun z => by
    rcases z with rfl | z
    · exact na f
    · obtain ⟨_, _, q⟩ := (h.hr s).mem z
      exact q.ne e rfl
  have kr : ∀ {b : Addr}, b ∈ J.ra s → b ≠ J.j ∧ b ≠ J.t := fun {b} z => by
    obtain ⟨_, _, q⟩ := (h.hr s).mem z
    exact ⟨h.rowJ q, h.rowT q⟩
  refine ⟨h.kind, k _ _ h.hj fun z => ?_, h.ht.at fun o e => k _ _ e fun z => ?_, kl Ft.pm h.hm, kl Ft.pt h.hn, kl Ft.pk h.hk, fun s' => kl (Ft.k s') (h.hl s'), fun s' => ?_, kl Ft.pv h.hv, h.hw.at fun b hb o e => k _ _ e fun z => ?_, h.nl, h.nr⟩
  · rcases z with z | z
    · exact na (z ▸ Ft.j)
    · exact (kr z).1 rfl
  · rcases z with z | z
    · exact na (z ▸ Ft.t)
    · exact (kr z).2 rfl
  · show RowsAt A H' (J.ra s') (JM.up m.kept s rs s')
    by_cases c : s' = s
    · subst c
      rw [JM.up_same]
      exact hr
    · rw [JM.up_ne c]
      refine (h.hr s').at fun b hb o e => k _ _ e fun z => ?_
      rcases z with rfl | z
      · exact na (Ft.ra hb)
      · exact h.raD (Ne.symm c) z hb
  · rcases z with rfl | z
    · exact na (Ft.va hb)
    · exact h.raV z hb
end
/-- a row has come; what changed lies in a new list -/
def Came (A : Adr) (H : Hp) (J : JA) (x : M × List Chg) (a : Addr) (r : R) (Q : VK) : Prop := ∀ (H' : Hp) (J' : JA) (p : Addr) (as : List Addr) (r' : R), J'.j = J.j → Kp (fun b => b = a ∨ Ft J b) H H' → JoinAt A H' J' x.1 → (∀ b, Ft J' b → Ft J b ∨ b = a) → H p = none →
  H' p = some (.lst (refs as)) → ChAt H' as x.2 → RowAt A H' a r' → r'.id = r.id → Q (.ref p) H'
def spCame (A : Adr) (f : M → Bool → R → M × List Chg) : Sp := fun vs H Q _ => ∃ (J : JA) (m : M) (s : Bool) (a : Addr) (r : R), vs = [.ref J.j, .int (sv s), .ref a] ∧ JoinAt A H J m ∧ RowAt A H a r ∧ ¬ Ft J a ∧ JM.Sz 1000 m ∧ r.met = false ∧ Came A H J (f m s r) a r Q
def fMeet (m : M) (s : Bool) (r : R) : M × List Chg := ({ m with kept := m.keptMeet s r }, m.chMeet s r)
section
variable {P : Program} {w : World} {K : PySem.W.Frag} {mg : Str → Option Value} {base : Heap} {A : Adr}
theorem scComeMeet : FnScope ["self", "side", "row", "found", "wanted"] ["self", "side", "row"] (defScope (sJoin 3)) := ⟨rfl, rfl, rfl, by decide +kernel, rfl, by decide +kernel, by decide +kernel⟩
def tCMend (K : PySem.W.Frag) : TS := tSeq (tIfS (tB (tVar 4)) (tDrop (tBM K "list" rAppend (tOp (rIxL K) (tFld K (tVar 0) "kept") (tVar 1)) (tCons (tVar 2) tNil))) tNext) (tRet (tVar 3))
theorem ok_comeMeet (T : Txt K mg A) : Met P w K mg base CX0 12 A.CJ "come_to_meet" (spCame A fMeet) := by
  refine met0 (k := 11) T.clJ T.mComeMeet (fun _ _ _ _ _ _ us hl => match us, hl with | [_, _, _], _ => rfl) scComeMeet (fun vs H Q E h => ?_) (fun f cdv Ar outer s H vs Q E hr h => ?_)
  rotate_left
  · refine ⟨_, pss_cons (ps_set (i := 3) scComeMeet.nd rfl (.inl rfl) (pe_mt (ok_meetAll T) hr (by decide) pass0 (pv 0) (pa_cons (pv 1) (pa_cons (pv 2) pa_nil))))
      (pss_cons (ps_set (i := 4) scComeMeet.nd rfl (.inl rfl) (pe_mt (ok_wanted T) hr (by decide) pass0 (pe_fld (pv 0) rfl) (pa_cons (pv 1) (pa_cons (pv 2) (pa_cons (pe_ix ix_list (pe_fld (pv 0) rfl) (pe_c (ok_other T) hr (by decide) pass0 (by rfl) (pa_cons (pv 1) pa_nil)) (fun _ _ => rfl)) pa_nil)))))
      (pss_cons (ps_if (pt_not (pt_val (pe_fld (pv 2) rfl)))
        (pss_one (ps_if (PW.pt (pw_or (pt_val (pe_mt (ok_once T) hr (by decide) pass0 (pe_fld (pv 0) rfl) (pa_cons (pv 1) pa_nil))) (pw_or1 (PW.pt (pw_and (pt_val (pe_mt (ok_late T) hr (by decide) pass0 (pe_fld (pv 0) rfl) (pa_cons (pv 1) pa_nil))) (pw_and1 (pt_not (pt_val (pv 4)))))))))
          (pss_one (ps_expr (pe_bm PySem.F.plainAttrs_list PySem.F.slot_list_append PySem.F.type_list_append mt_append (pv 3) (pa_cons (pe_c (ok_alone T) hr (by decide) pass0 (by rfl) (pa_cons (pe_ic T.TOLD rfl) (pa_cons (pv 1) (pa_cons (pv 2) pa_nil)))) pa_nil)))) pss_nil)) pss_nil)
      (pss_cons (ps_if (pt_val (pv 4)) (pss_one (ps_expr (pe_bm PySem.F.plainAttrs_list PySem.F.slot_list_append PySem.F.type_list_append mt_append (pe_ix ix_list (pe_fld (pv 0) rfl) (pv 1) (fun _ _ => rfl)) (pa_cons (pv 2) pa_nil)))) pss_nil)
      (pss_one (ps_ret (pv 3)))))), ?_⟩
    obtain ⟨J, m, s, a, r, rfl, hJ, ha, na, hz, hmet, q⟩ := h
    have no6 : (joinF J m.aside).lookup ("meet_all" : Str) = none := joinF_no J _ (by decide +kernel) (by decide +kernel) (by decide +kernel) (by decide +kernel) (by decide +kernel) (by decide +kernel)
    refine ⟨_, rfl, J.j, J.dj, _, rfl, hJ.hj, no6, _, rfl, _, rfl, J, m, s, a, r, rfl, hJ, ha, fun z => na (Ft.ra z), hz, fun H1 p as k1 hp hl hch ha1 hr1 => ?_⟩
    have J1 := hJ.touchRows k1 na hr1
    obtain ⟨dt, htt⟩ := J1.ht
    obtain ⟨da, haa⟩ := ha1
    have k1' : Kp (fun b => b = a ∨ Ft J b) H H1 := k1.mono fun b z => z.imp id Ft.ra
    have no : ∀ {x : Str}, (x == ("kind" : Str)) = false → (x == ("ahead" : Str)) = false → (x == ("after" : Str)) = false → (x == ("eager" : Str)) = false → (termF m).lookup x = none := fun a b c d => termF_no m a b c d
    refine ⟨_, rfl, J.j, A.CJ, J.dj, _, _, rfl, J1.hj, T.clJ, T.nTerms, joinF_terms J _, J.t, dt, _, rfl, htt, no (by decide +kernel) (by decide +kernel) (by decide +kernel) (by decide +kernel), _, rfl, _, rfl,
      _, rfl, J.j, A.CJ, J.dj, _, _, rfl, J1.hj, T.clJ, T.nMarks, joinF_marks J _, _, rfl, s, rfl, J.pm, _, _, _, rfl, rfl, SqL.of J1.hm, ix_side (fun b => nv (m.mark b)) (!s), J.t, a, m, s, JM.touch (m.metAny s r) r, m.mark (!s), rfl, ⟨dt, htt⟩, ⟨da, haa⟩, ?_⟩
    have ew : m.want s (JM.touch (m.metAny s r) r) (m.mark (!s)) = m.want s r (m.mark (!s)) := by unfold JM.touch; cases m.metAny s r <;> rfl
    rw [ew]
    have em : (JM.touch (m.metAny s r) r).met = m.metAny s r := by
      unfold JM.touch
      cases m.metAny s r
      · exact hmet
      · rfl
    have ei : (JM.touch (m.metAny s r) r).id = r.id := by unfold JM.touch; cases m.metAny s r <;> rfl
    -- the end
    have fin : ∀ (H2 : Hp) (as2 : List Addr), Kp (fun b => b = a ∨ Ft J b) H H2 → JoinAt A H2 J { m with kept := JM.up m.kept (!s) (m.touched s r) } → H2 p = some (.lst (refs as2)) → ChAt H2 as2 (m.chMeet s r) → RowAt A H2 a (JM.touch (m.metAny s r) r) →
        tCMend K { nx := fun _ H' => Q .non H', rt := Q } [some (.ref J.j), some (.int (sv s)), some (.ref a), some (.ref p), some (.bl (m.want s r (m.mark (!s))))] H2 := fun H2 as2 k2 J2 hl2 hc2 ha2 => by
      refine ⟨_, rfl, _, rfl, ?_⟩
      have es : JM.up m.kept (!s) (m.touched s r) s = m.kept s := JM.up_ne (ne_not s)
      cases cw : m.want s r (m.mark (!s)) with
      | false =>
        refine iteF ⟨_, rfl, ?_⟩
        refine q H2 J p as2 _ rfl k2 ?_ (fun b f => .inl f) hp hl2 hc2 ha2 ei
        have e : m.keptMeet s r = JM.up m.kept (!s) (m.touched s r) := by
          unfold M.keptMeet
          rw [cw]
          funext b
          by_cases c : b = s
          · subst c
            rw [JM.up_same, es]
            rfl
          · rw [JM.up_ne c]
        show JoinAt A H2 J { m with kept := m.keptMeet s r }
        rw [e]
        exact J2
      | true =>
        refine iteT ⟨_, rfl, J.j, A.CJ, J.dj, _, _, rfl, J2.hj, T.clJ, T.nKept, joinF_kept J _, _, rfl, J.pk, _, _, _, rfl, rfl, SqL.of J2.hk, ix_side (fun b => .ref (J.k b)) s, .inl ⟨rfl, _, SqL.of (J2.hl s)⟩, _, rfl, J.k s, _, _, rfl, rfl, J2.hl s, ?_, ?_⟩
        · refine line_lt' ?_
          have z := hz.1 s
          unfold refs
          rw [List.length_map, (hJ.hr s).1]
          omega
        have J3 := J2.addKept ha2 na s
        have pk : p ≠ J.k s := fun z => hJ.notFt hp (z ▸ Ft.k s)
        refine ⟨_, rfl, q _ { J with ra := JM.up J.ra s (J.ra s ++ [a]) } p as2 _ rfl (k2.trans (Kp.upd (.inr (Ft.k s)))) ?_ (fun b f => ft_addKept (J := J) (s := s) f) hp (at_ne hl2 pk) (hc2.upd (J2.hl s) fun xs z => by cases z) (ha2.at fun o e => at_ne e (ha2.ne (J2.hl s))) ei⟩
        have e : m.keptMeet s r = JM.up (JM.up m.kept (!s) (m.touched s r)) s (JM.up m.kept (!s) (m.touched s r) s ++ [JM.touch (m.metAny s r) r]) := by
          unfold M.keptMeet
          rw [cw, es]
          rfl
        show JoinAt A _ _ { m with kept := m.keptMeet s r }
        rw [e]
        exact J3
    -- not told alone
    have plain : (!(m.metAny s r) && (m.once s || (m.late s && !(m.want s r (m.mark (!s)))))) = false → tCMend K { nx := fun _ H' => Q .non H', rt := Q } [some (.ref J.j), some (.int (sv s)), some (.ref a), some (.ref p), some (.bl (m.want s r (m.mark (!s))))] H1 := fun z => by
      refine fin H1 as k1' J1 hl ?_ ⟨da, haa⟩
      unfold M.chMeet
      rw [z]
      rw [if_neg (by decide), List.append_nil]
      exact hch
    -- told alone
    have told : (!(m.metAny s r) && (m.once s || (m.late s && !(m.want s r (m.mark (!s)))))) = true →
        tDrop (tBM K "list" rAppend (tVar 3) (tCons (tCall (spAlone A) [] E0 (tCons (tC (.int 1)) (tCons (tVar 1) (tCons (tVar 2) tNil)))) tNil)) { nx := tCMend K { nx := fun _ H' => Q .non H', rt := Q }, rt := Q } [some (.ref J.j), some (.int (sv s)), some (.ref a), some (.ref p), some (.bl (m.want s r (m.mark (!s))))] H1 := fun z => by
      refine ⟨_, rfl, .inl ⟨rfl, _, SqL.of hl⟩, _, rfl, _, rfl, true, s, a, _, rfl, ⟨da, haa⟩, fun n hn => ?_⟩
      have s1 := same_upd (o := .tup ((chI (JM.chAlone true s (JM.touch (m.metAny s r) r))).map V.int)) hn
      have pn : p ≠ n := ne_of_none hl hn
      refine ⟨p, _, _, rfl, rfl, at_new hl hn, ?_, ?_⟩
      · refine line_lt' ?_
        have z := JM.flat_len (JM.chOne_len m s r) (m.kept (!s))
        have z2 := hz.1 (!s)
        unfold refs
        rw [List.length_map, hch.1]
        unfold M.metAll
        omega
      have J2 : JoinAt A (upd (upd H1 n (.tup ((chI (JM.chAlone true s (JM.touch (m.metAny s r) r))).map V.int))) p (.lst (refs as ++ [.ref n]))) J { m with kept := JM.up m.kept (!s) (m.touched s r) } := J1.at fun b f o e =>
        at_ne (at_new e hn) fun y => hJ.notFt hp (y ▸ f)
      refine fin _ (as ++ [n]) (fun b o e nb => at_ne (at_new (k1' b o e nb) hn) (ne_of_none e hp)) J2 ?_ ?_ ⟨da, at_ne (at_new haa hn) (RowAt.ne ⟨da, haa⟩ hl)⟩
      · rw [upd_same, refs_snoc]
      · have e0 : m.chMeet s r = m.metAll s r ++ [JM.chAlone true s r] := by unfold M.chMeet; rw [z] <;> rfl
        rw [e0]
        have e1 : JM.chAlone true s (JM.touch (m.metAny s r) r) = JM.chAlone true s r := by unfold JM.touch; cases m.metAny s r <;> rfl
        rw [← e1]
        exact ((hch.same s1).upd (at_new hl hn) fun xs z => by cases z).snoc (at_ne upd_same pn.symm)
    refine ⟨_, rfl, a, A.CR, da, _, _, rfl, haa, T.clR, T.nMet, rowF_met _, _, rfl, ?_⟩
    rw [em]
    cases c1 : m.metAny s r with
    | true => exact iteF (plain (by rw [c1] <;> rfl))
    | false =>
      refine iteT ⟨_, rfl, J.j, A.CJ, J.dj, _, _, rfl, J1.hj, T.clJ, T.nTerms, joinF_terms J _, J.t, dt, _, rfl, htt, no (by decide +kernel) (by decide +kernel) (by decide +kernel) (by decide +kernel), _, rfl, J.t, _, s, rfl, ⟨dt, htt⟩, J1.kind, _, rfl, ?_⟩
      show if M.once m s = true then _ else _
      cases c2 : m.once s with
      | true => exact iteT (iteT (told (by rw [c1, c2] <;> rfl)))
      | false =>
        refine iteF ⟨_, rfl, J.j, A.CJ, J.dj, _, _, rfl, J1.hj, T.clJ, T.nTerms, joinF_terms J _, J.t, dt, _, rfl, htt, no (by decide +kernel) (by decide +kernel) (by decide +kernel) (by decide +kernel), _, rfl, J.t, _, s, rfl, ⟨dt, htt⟩, J1.kind, _, rfl, ?_⟩
        show if M.late m s = true then _ else _
        cases c3 : m.late s with
        | false => exact iteF (iteF (plain (by rw [c1, c2, c3] <;> rfl)))
        | true =>
          refine iteT ⟨_, rfl, _, rfl, ?_⟩
          cases c4 : m.want s r (m.mark (!s)) with
          | true =>
            rw [c4] at plain
            exact iteF (plain (by rw [c1, c2, c3] <;> rfl))
          | false =>
            rw [c4] at told
            exact iteT (told (by rw [c1, c2, c3] <;> rfl))
  · obtain ⟨J, m, s, a, r, rfl, _⟩ := h
    rfl
theorem scMoment : FnScope ["self", "side", "row"] ["self", "side", "row"] (defScope (sJoin 5)) := ⟨rfl, rfl, rfl, by decide +kernel, rfl, by decide +kernel, by decide +kernel⟩
theorem ok_moment (T : Txt K mg A) : Met P w K mg base CX0 12 A.CJ "come_at_moment" (spCame A M.moment) := by
  refine met0 (k := 11) T.clJ T.mMoment (fun _ _ _ _ _ _ us hl => match us, hl with | [_, _, _], _ => rfl) scMoment (fun vs H Q E h => ?_) (fun f cdv Ar outer s H vs Q E hr h => ?_)
  rotate_left
  · refine ⟨_, pss_cons (ps_if (pt_cmpR op_eq (pv 1) (pe_ic T.RIGHT rfl) (nomark _)) (pss_cons (ps_expr (pe_bm PySem.F.plainAttrs_list PySem.F.slot_list_append PySem.F.type_list_append mt_append (pe_fld (pv 0) rfl) (pa_cons (pv 2) pa_nil))) (pss_one (ps_ret (pe_lst pa_nil)))) pss_nil)
      (pss_cons (ps_if (pt_cmpR op_gt (pe_ix ix_list (pe_fld (pv 0) rfl) (pe_ic T.RIGHT rfl) (fun _ _ => rfl)) (pe_fld (pv 2) rfl) (nomark _)) (pss_one (ps_ret (pe_lst (pa_cons (pe_mt (ok_toldAt T) hr (by decide) pass0 (pv 0) (pa_cons (pv 2) pa_nil)) pa_nil)))) pss_nil)
      (pss_cons (ps_expr (pe_bm PySem.F.plainAttrs_list PySem.F.slot_list_append PySem.F.type_list_append mt_append (pe_ix ix_list (pe_fld (pv 0) rfl) (pe_ic T.LEFT rfl) (fun _ _ => rfl)) (pa_cons (pv 2) pa_nil))) (pss_one (ps_ret (pe_lst pa_nil))))), ?_⟩
    obtain ⟨J, m, s, a, r, rfl, hJ, ha, na, hz, hmet, q⟩ := h
    refine ⟨_, rfl, rfl, _, rfl, ?_⟩
    rw [side_right]
    cases s with
    | true =>
      refine iteT ⟨_, rfl, J.j, A.CJ, J.dj, _, _, rfl, hJ.hj, T.clJ, T.nVersions, joinF_versions J _, .inl ⟨rfl, _, SqL.of hJ.hv⟩, _, rfl, J.pv, _, _, rfl, rfl, hJ.hv, ?_, ?_⟩
      · refine line_lt' ?_
        have z := hz.2
        unfold refs
        rw [List.length_map, hJ.hw.1]
        omega
      refine ⟨by show 0 ≤ sizeLine; decide, fun p hp => ?_⟩
      have J1 := hJ.addVers ha na
      have s2 := same_upd (o := .lst []) hp
      have p0 : H p = none := (no_ne hp).2
      refine q _ { J with va := J.va ++ [a] } p [] r rfl (Kp.trans (Kp.upd (.inr Ft.pv)) (Kp.of s2)) (J1.same s2) (fun b f => ft_addVers (J := J) f) p0 upd_same ChAt.nil ((ha.at fun o e => at_ne e (ha.ne hJ.hv)).same s2) rfl
    | false =>
      obtain ⟨da, haa⟩ := ha
      refine iteF ⟨_, rfl, J.j, A.CJ, J.dj, _, _, rfl, hJ.hj, T.clJ, T.nMarks, joinF_marks J _, J.pm, _, _, _, rfl, rfl, SqL.of hJ.hm, ix_side (fun b => nv (m.mark b)) true, _, rfl, a, A.CR, da, _, _, rfl, haa, T.clR, T.nTime, rowF_time r, _, _, rfl, rfl, _, rfl, ite2 (fun c => ?_) (fun c => ?_)⟩
      · rw [decide_eq_true_eq] at c
        have c' : r.t < m.mark true := by omega
        have e : m.moment false r = (m, [m.toldAt r]) := by
          unfold M.moment
          rw [if_neg (by decide), if_pos c']
        have no4 : (joinF J m.aside).lookup ("told_at" : Str) = none := joinF_no J _ (by decide +kernel) (by decide +kernel) (by decide +kernel) (by decide +kernel) (by decide +kernel) (by decide +kernel)
        refine ⟨_, rfl, J.j, J.dj, _, rfl, hJ.hj, no4, _, rfl, J, m, a, r, rfl, hJ, ⟨da, haa⟩, fun H1 p1 k1 hp1 hl1 => ⟨by show 1 ≤ sizeLine; decide, fun p hp => ?_⟩⟩
        have s2 := same_upd (o := .lst [.ref p1]) hp
        refine q _ J p [p1] r rfl (Kp.of (k1.trans s2)) ?_ (fun b f => .inl f) (k1.free hp) upd_same ?_ ⟨da, s2 _ _ (k1 _ _ haa)⟩ rfl
        · rw [e]
          exact (hJ.same k1).same s2
        · rw [e]
          exact ChAt.snoc ChAt.nil (s2 _ _ hl1)
      · rw [decide_eq_true_eq] at c
        have c' : ¬ r.t < m.mark true := by omega
        have e : m.moment false r = ({ m with kept := JM.up m.kept false (m.kept false ++ [r]) }, []) := by
          unfold M.moment
          rw [if_neg (by decide), if_neg c']
        refine ⟨_, rfl, J.j, A.CJ, J.dj, _, _, rfl, hJ.hj, T.clJ, T.nKept, joinF_kept J _, J.pk, _, _, _, rfl, rfl, SqL.of hJ.hk, ix_side (fun b => .ref (J.k b)) false, .inl ⟨rfl, _, SqL.of (hJ.hl false)⟩, _, rfl, J.k false, _, _, rfl, rfl, hJ.hl false, ?_, ?_⟩
        · refine line_lt' ?_
          have z := hz.1 false
          unfold refs
          rw [List.length_map, (hJ.hr false).1]
          omega
        refine ⟨by show 0 ≤ sizeLine; decide, fun p hp => ?_⟩
        have ha : RowAt A H a r := ⟨da, haa⟩
        have J1 := hJ.addKept ha na false
        have s2 := same_upd (o := .lst []) hp
        have p0 : H p = none := (no_ne hp).2
        refine q _ { J with ra := JM.up J.ra false (J.ra false ++ [a]) } p [] r rfl (Kp.trans (Kp.upd (.inr (Ft.k false))) (Kp.of s2)) ?_ (fun b f => ft_addKept (J := J) (s := false) f) p0 upd_same ?_ ((ha.at fun o e => at_ne e (ha.ne (hJ.hl false))).same s2) rfl
        · rw [e]
          exact J1.same s2
        · rw [e]
          exact ChAt.nil
  · obtain ⟨J, m, s, a, r, rfl, _⟩ := h
    rfl
end
end JW
/-! ### a row comes -/
namespace JW
open PySem PySem.Spec PyProof.Rows L2
open JM (M)
/-- what a call does to a join, and answers in a new list -/
def Post (A : Adr) (H : Hp) (J : JA) (x : M × List Int) (Q : VK) : Prop := ∀ (H' : Hp) (J' : JA) (p : Addr), J'.j = J.j → Kp (Ft J) H H' → JoinAt A H' J' x.1 → (∀ b, Ft J' b → Ft J b ∨ H b = none) → (Ft J p ∨ H p = none) → H' p = some (.lst (x.2.map V.int)) → Q (.ref p) H'
/-- new, as far as others see -/
theorem nw_of {J : JA} {H H' : Hp} {p : Addr} (k : Kp (Ft J) H H') (n : H' p = none) : Ft J p ∨ H p = none := by
  by_cases f : Ft J p
  · exact .inl f
  · refine .inr ?_
    cases e : H p with
    | none => rfl
    | some o =>
      have w := k p o e f
      rw [n] at w
      cases w
def spCome (A : Adr) : Sp := fun vs H Q E => ∃ (J : JA) (m : M) (s : Bool) (key t : Nat), vs = [.ref J.j, .int (sv s), nv key, nv t] ∧ JoinAt A H J m ∧ JM.Sz 1000 m ∧ (1000000 < t → Rais A H E (-2)) ∧ (¬ 1000000 < t → Post A H J (m.come s key t) Q)
theorem both_up (f : Bool → Nat) (s : Bool) (n : Nat) : (both f).set (if s = true then 1 else 0) (nv n) = both (JM.up f s n) := by cases s <;> rfl
theorem both_ixn (f : Bool → Nat) (s : Bool) : ixN (both f).length (sv s) = some (if s = true then 1 else 0) := by cases s <;> rfl
theorem side_dec (n k : Nat) : decide ((n : Int) < (k : Int)) = decide (n < k) := decide_eq_decide.mpr (by omega)
section
variable {P : Program} {w : World} {K : PySem.W.Frag} {mg : Str → Option Value} {base : Heap} {A : Adr}
theorem scCome : FnScope ["self", "side", "key", "time", "row", "changes"] ["self", "side", "key", "time"] (defScope (sJoin 6)) := ⟨rfl, rfl, rfl, by decide +kernel, rfl, by decide +kernel, by decide +kernel⟩
def tComeEnd (K : PySem.W.Frag) : TS := tRet (tOp rCat (tLst (tCons (tFld K (tVar 4) "number") tNil)) (tCall spChanges [] E0 (tCons (tVar 5) tNil)))
theorem ok_come (T : Txt K mg A) : Met P w K mg base (L2.CX P w) 15 A.CJ "come" (spCome A) := by
  refine metX (k := 14) T.clJ T.mCome (fun _ _ _ _ _ _ us hl => match us, hl with | [_, _, _, _], _ => rfl) scCome (fun vs H Q E h => ?_) (fun f cdv Ar outer s H vs Q E hr h => ?_)
  rotate_left
  · refine ⟨_, pss_cons (ps_expr (pe_c (ok_ask T) hr (by decide) passE (by rfl) (pa_cons (pe_cmpR op_le (pv 3) (pe_ic T.MOST_TIME rfl) (nomark _)) (pa_cons (pe_ic T.BEYOND rfl) pa_nil))))
      (pss_cons (ps_if (pt_cmpR op_lt (pv 3) (pe_ix ix_list (pe_fld (pv 0) rfl) (pv 1) (fun _ _ => rfl)) (nomark _)) (pss_cons (ps_fldaug (pv 0) pe_int in_add) (pss_one (ps_ret (pe_lst (pa_cons pe_int (pa_cons pe_int pa_nil)))))) pss_nil)
      (pss_cons (ps_augS (pe_fld (pv 0) rfl) (pv 1) pget_list pe_int ip_add set_list)
      (pss_cons (ps_set (i := 4) scCome.nd rfl (.inl rfl) (pe_mk (ok_rowI T) hr (by decide) pass0 (by rfl) (pa_cons (pe_ix ix_list (pe_fld (pv 0) rfl) (pv 1) (fun _ _ => rfl)) (pa_cons (pv 2) (pa_cons (pv 3) pa_nil)))))
      (pss_cons (ps_if (pt_val (pe_mt0 (ok_isMoment T) hr (by decide) pass0 (pe_fld (pv 0) rfl)))
        (pss_one (ps_set (i := 5) scCome.nd rfl (.inl rfl) (pe_mt (ok_moment T) hr (by decide) pass0 (pv 0) (pa_cons (pv 1) (pa_cons (pv 4) pa_nil)))))
        (pss_one (ps_set (i := 5) scCome.nd rfl (.inl rfl) (pe_mt (ok_comeMeet T) hr (by decide) pass0 (pv 0) (pa_cons (pv 1) (pa_cons (pv 4) pa_nil))))))
      (pss_one (ps_ret (pe_op op_cat (pe_lst (pa_cons (pe_fld (pv 4) rfl) pa_nil)) (pe_c (ok_changes T) hr (by decide) pass0 (by rfl) (pa_cons (pv 5) pa_nil))))))))), ?_⟩
    obtain ⟨J, m, s, key, t, rfl, hJ, hz, h1, h2⟩ := h
    refine ⟨_, rfl, _, _, rfl, rfl, _, _, rfl, fun c1 => ?_, fun c1 => h1 (by rw [decide_eq_false_iff_not] at c1; omega)⟩
    rw [decide_eq_true_eq] at c1
    have q := h2 (by omega)
    refine ⟨_, rfl, _, rfl, J.j, A.CJ, J.dj, _, _, rfl, hJ.hj, T.clJ, T.nMarks, joinF_marks J _, _, rfl, J.pm, _, _, _, rfl, rfl, SqL.of hJ.hm, ix_side (fun b => nv (m.mark b)) s, _, _, rfl, rfl, _, rfl, ite2 (fun c => ?_) (fun c => ?_)⟩
    · rw [decide_eq_true_eq] at c
      have c' : t < m.mark s := by omega
      have e : m.come s key t = ({ m with aside := m.aside + 1 }, Hs06.ints [0, 0]) := by
        unfold M.come
        rw [if_pos c']
      rw [e] at q
      refine ⟨_, rfl, J.j, A.CJ, J.dj, _, _, rfl, hJ.hj, T.clJ, T.nAside, joinF_aside J _, _, _, rfl, rfl, J.dj, _, hJ.hj, (by show 6 < 1000; decide), ?_⟩
      have ep : putF "aside" (.int ((m.aside : Int) + 1)) (joinF J m.aside) = joinF J (m.aside + 1) := joinF_put J m.aside (m.aside + 1)
      rw [ep]
      refine ⟨by show 2 ≤ sizeLine; decide, fun p hp => ?_⟩
      have s2 := same_upd (o := .lst [.int 0, .int 0]) hp
      exact q _ J p rfl (Kp.trans (Kp.upd Ft.j) (Kp.of s2)) ((hJ.setAside (m.aside + 1)).same s2) (fun b f => .inl f) (.inr (no_ne hp).2) upd_same
    · rw [decide_eq_true_eq] at c
      have c' : ¬ t < m.mark s := by omega
      refine ⟨_, rfl, J.j, A.CJ, J.dj, _, _, rfl, hJ.hj, T.clJ, T.nTaken, joinF_taken J _, _, rfl, J.pt, _, _, nv (m.taken s), rfl, rfl, SqL.of hJ.hn, (by cases s <;> decide), (by cases s <;> rfl), _, _, rfl, rfl, J.pt, _, _, _, rfl, rfl, hJ.hn, both_ixn m.taken s, ?_⟩
      have eu : (both m.taken).set (if s = true then 1 else 0) (.int ((m.taken s : Int) + 1)) = both (JM.up m.taken s (m.taken s + 1)) := both_up m.taken s (m.taken s + 1)
      rw [eu]
      have J1 := hJ.setTaken (JM.up m.taken s (m.taken s + 1))
      have k1 : Kp (Ft J) H (upd H J.pt (.lst (both (JM.up m.taken s (m.taken s + 1))))) := Kp.upd Ft.pt
      have f1 : ∀ {b : Addr}, upd H J.pt (.lst (both (JM.up m.taken s (m.taken s + 1)))) b = none → H b = none := fun z => (no_ne z).2
      generalize upd H J.pt (.lst (both (JM.up m.taken s (m.taken s + 1)))) = H1 at J1 k1 f1 ⊢
      refine ⟨_, rfl, J.j, A.CJ, J.dj, _, _, rfl, J1.hj, T.clJ, T.nTaken, joinF_taken J _, _, rfl, J.pt, _, _, _, rfl, rfl, SqL.of J1.hn, ix_side (fun b => nv (JM.up m.taken s (m.taken s + 1) b)) s, _, rfl, _, rfl, fun x dx nx nd ndx => ?_⟩
      rw [JM.up_same]
      refine ⟨x, dx, m.taken s + 1, key, t, rfl, upd_same, rfl, ?_⟩
      rw [upd_upd]
      have s2 := Same.made2 (C := A.CR) (fs := rowF ⟨m.taken s + 1, key, t, false⟩) nx nd
      have hx : upd (upd H1 dx (.own x)) x (.ins A.CR dx (rowF ⟨m.taken s + 1, key, t, false⟩)) x = some (.ins A.CR dx (rowF ⟨m.taken s + 1, key, t, false⟩)) := upd_same
      have f2 : ∀ {b : Addr}, upd (upd H1 dx (.own x)) x (.ins A.CR dx (rowF ⟨m.taken s + 1, key, t, false⟩)) b = none → H1 b = none := fun z => (no_ne (no_ne z).2).2
      generalize upd (upd H1 dx (.own x)) x (.ins A.CR dx (rowF ⟨m.taken s + 1, key, t, false⟩)) = H2 at s2 hx f2 ⊢
      have J2 := J1.same s2
      have na : ¬ Ft J x := J1.notFt nx
      have ha : RowAt A H2 x ⟨m.taken s + 1, key, t, false⟩ := ⟨dx, hx⟩
      have hz2 : JM.Sz 1000 (m.took s) := hz
      obtain ⟨dt, htt⟩ := J2.ht
      have q' : Post A H J (((m.took s).enter s ⟨m.taken s + 1, key, t, false⟩).1, Hs06.ints ((m.taken s + 1) :: Hs06.changes ((m.took s).enter s ⟨m.taken s + 1, key, t, false⟩).2)) Q := by
        have e : m.come s key t = (((m.took s).enter s ⟨m.taken s + 1, key, t, false⟩).1, Hs06.ints ((m.taken s + 1) :: Hs06.changes ((m.took s).enter s ⟨m.taken s + 1, key, t, false⟩).2)) := by
          unfold M.come
          rw [if_neg c']
        rw [← e]
        exact q
      have el := JM.enter_len hz2 s ⟨m.taken s + 1, key, t, false⟩
      -- the end
      have fin : ∀ y : M × List Chg, (m.took s).enter s ⟨m.taken s + 1, key, t, false⟩ = y → Came A H2 J y x ⟨m.taken s + 1, key, t, false⟩
          (fun v H' => tComeEnd K { nx := fun _ H' => Q .non H', rt := Q } [some (.ref J.j), some (.int (sv s)), some (nv key), some (nv t), some (.ref x), some v] H') := fun y ey H3 J3 p as r' ej k3 j3 f3 hp hl hc ha3 ei => by
        subst ey
        obtain ⟨da, haa⟩ := ha3
        refine ⟨_, rfl, x, A.CR, da, _, _, rfl, haa, T.clR, T.nNumber, rowF_number r', (by show 1 ≤ sizeLine; decide), fun q1 hq1 => ⟨_, rfl, ?_⟩⟩
        have s4 := same_upd (o := .lst [nv r'.id]) hq1
        refine ⟨p, as, _, rfl, s4 _ _ hl, hc.same s4, by omega, fun H4 q2 s5 hq2 hl2 => ?_⟩
        refine ⟨q1, q2, _, _, rfl, rfl, s5 _ _ upd_same, hl2, ?_, fun z hz' => ?_⟩
        · refine line_of' ?_
          rw [List.length_map, changes_ints, List.length_cons]
          show 1 + (_ + 1) ≤ _
          have z := JM.flat_len (f := chI) (k := 3) (fun _ => Nat.le_refl 3) ((m.took s).enter s ⟨m.taken s + 1, key, t, false⟩).2
          omega
        have s6 := same_upd (o := .lst ([nv r'.id] ++ (Hs06.ints (Hs06.changes ((m.took s).enter s ⟨m.taken s + 1, key, t, false⟩).2)).map V.int)) hz'
        have s36 := s4.trans (s5.trans s6)
        have nz : H3 z = none := s4.free (s5.free hz')
        have kk : Kp (Ft J) H H3 := fun b o eb nb => k3 b o (s2 b o (k1 b o eb nb)) fun w => by
          rcases w with w | w
          · have z := k1 b o eb nb
            rw [w, nx] at z
            cases z
          · exact nb w
        refine q' _ J3 z ej (kk.trans (Kp.of s36)) (j3.same s36) (fun b fb => ?_) (nw_of kk nz) ?_
        · rcases f3 b fb with w | w
          · exact .inl w
          · exact .inr (by rw [w]; exact f1 nx)
        · rw [upd_same, ei]
          rfl
      have noK : ∀ {y : Str}, (y == ("kind" : Str)) = false → (y == ("ahead" : Str)) = false → (y == ("after" : Str)) = false → (y == ("eager" : Str)) = false → (termF m).lookup y = none := fun a b c d => termF_no m a b c d
      have noJ : ∀ {y : Str}, (y == ("terms" : Str)) = false → (y == ("marks" : Str)) = false → (y == ("taken" : Str)) = false → (y == ("kept" : Str)) = false → (y == ("aside" : Str)) = false → (y == ("versions" : Str)) = false → (joinF J m.aside).lookup y = none := fun a b c d e f => joinF_no J _ a b c d e f
      refine ⟨_, rfl, J.j, A.CJ, J.dj, _, _, rfl, J2.hj, T.clJ, T.nTerms, joinF_terms J _, J.t, dt, _, rfl, htt, noK (by decide +kernel) (by decide +kernel) (by decide +kernel) (by decide +kernel), J.t, _, rfl, ⟨dt, htt⟩, _, rfl, ?_⟩
      refine ite2 (fun c2 => ?_) (fun c2 => ?_)
      · have c3 : m.kind = 3 := of_decide_eq_true c2
        exact ⟨_, rfl, J.j, J.dj, _, rfl, J2.hj, noJ (by decide +kernel) (by decide +kernel) (by decide +kernel) (by decide +kernel) (by decide +kernel) (by decide +kernel), _, rfl, _, rfl, J, m.took s, s, x, _, rfl, J2, ha, na, hz2, rfl, fin _ (by unfold M.enter; exact if_pos c3)⟩
      · have c3 : ¬ m.kind = 3 := fun z => c2 (decide_eq_true z)
        exact ⟨_, rfl, J.j, J.dj, _, rfl, J2.hj, noJ (by decide +kernel) (by decide +kernel) (by decide +kernel) (by decide +kernel) (by decide +kernel) (by decide +kernel), _, rfl, _, rfl, J, m.took s, s, x, _, rfl, J2, ha, na, hz2, rfl, fin _ (by unfold M.enter; exact if_neg c3)⟩
  · obtain ⟨J, m, s, key, t, rfl, _⟩ := h
    rfl
end
end JW
/-! ### lists of rows, made within brackets; the rows of a side that go -/
namespace JW
open PySem PySem.Spec PyProof.Rows L2
open JM (M)
theorem filt_yes {α : Type} {l : List α} {i : Nat} {x : α} {c : α → Bool} (h : l[i]? = some x) (e : c x = true) : (l.take (i + 1)).filter c = (l.take i).filter c ++ [x] := by
  rw [take_more h, List.filter_append]
  simp [e]
theorem filt_no {α : Type} {l : List α} {i : Nat} {x : α} {c : α → Bool} (h : l[i]? = some x) (e : c x = false) : (l.take (i + 1)).filter c = (l.take i).filter c := by
  rw [take_more h, List.filter_append]
  simp [e]
section
variable {A : Adr} {K : PySem.W.Frag} {p D : Addr} {as : List Addr} {rs : List R} {g : TG} {tt : TT} {te : TE} {vs : List Nat} {σ : L2.St} {H : Hp} {Qd : Hp → Prop}
/-- [row for row in rows if ..] -/
theorem lc_filter (c : R → Bool) (hD : H D = none) (hp : H p = some (.lst (refs as))) (hr : RowsAt A H as rs) (hn : rs.length ≤ 100000)
    (hs : ∀ (b : Addr) (o : R) (H' : Hp) (C : V → Hp → Prop) (N : Hp → Prop), o ∈ rs → RowAt A H' b o → Same H H' → (c o = true → ∀ H2, Same H' H2 → C (.ref b) H2) → (c o = false → ∀ H2, Same H' H2 → N H2) →
      g (.ref b) (wipe σ vs) H' fun σ2 H2 => wipe σ2 vs = wipe σ vs ∧ tt σ2 H2 fun y H3 => if y = true then te σ2 H3 C else N H3)
    (hd : ∀ (H' : Hp) (bs : List Addr), Same H H' → H' D = some (.lst (refs bs)) → RowsAt A H' bs (rs.filter c) → bs.Sublist as → Qd H') :
    ∃ W : Nat → Nat → Hp → Prop, (∃ m, W 0 m (upd H D (.lst []))) ∧ ∀ i m H, W i m H →
      ((Itl K p).stop i H ∧ Qd H) ∨ ((Itl K p).go i H ∧ ∃ Nx : Hp → Prop, (∀ H', Nx H' → ∃ m', m' < m ∧ W (i + 1) m' H') ∧ ∀ x H', (Itl K p).yld i H x H' → g x (wipe σ vs) H' fun σ2 H2 => wipe σ2 vs = wipe σ vs ∧ tt σ2 H2 fun b H3 =>
        if b = true then te σ2 H3 fun y H4 => ∃ acc, H4 D = some (.lst acc) ∧ acc.length < sizeLine ∧ Nx (upd H4 D (.lst (acc ++ [y]))) else Nx H3) := by
  have e0 : (refs as).length = rs.length := by unfold refs; rw [List.length_map]; exact hr.1
  have er : as.length = rs.length := hr.1
  refine lc_list (K := K) (a := p) (xs := refs as) (fun i H' => Same H H' ∧ ∃ bs, H' D = some (.lst (refs bs)) ∧ RowsAt A H bs ((rs.take i).filter c) ∧ bs.Sublist (as.take i)) ⟨same_upd hD, [], upd_same, RowsAt.nil, List.Sublist.refl _⟩ (fun i H' _ ⟨k, _⟩ => SqL.of (k _ _ hp)) ?_ ?_
  · rintro i x H' hx ⟨k, bs, hb, hrb, hsb⟩
    obtain ⟨b, eb, rfl⟩ := refs_get hx
    obtain ⟨o, eo, hbo⟩ := hr.get eb
    have hi : i < rs.length := (List.getElem?_eq_some_iff.mp eo).1
    refine hs b o H' _ _ (List.mem_of_getElem? eo) (hbo.same k) k (fun ec H2 k2 => ?_) (fun ec H2 k2 => ?_)
    · refine ⟨_, k2 _ _ hb, ?_, fun z o' ez => ?_, bs ++ [b], ?_, ?_, ?_⟩
      · refine line_lt' ?_
        unfold refs
        have z := hsb.length_le
        rw [List.length_take] at z
        rw [List.length_map]
        omega
      · rw [upd_ne (ne_of_none ez hD)]
        exact k2 _ _ (k _ _ ez)
      · rw [upd_same, refs_snoc]
      · rw [filt_yes eo ec]
        exact hrb.snoc hbo
      · rw [take_more eb]
        exact hsb.append (List.Sublist.refl _)
    · refine ⟨k.trans k2, bs, k2 _ _ hb, ?_, ?_⟩
      · rw [filt_no eo ec]
        exact hrb
      · rw [take_more eb]
        exact hsb.trans (List.sublist_append_left _ _)
  · rintro H' ⟨k, bs, hb, hrb, hsb⟩
    rw [e0, List.take_length] at hrb
    rw [e0, ← er, List.take_length] at hsb
    exact hd H' bs k hb (hrb.same k) hsb
/-- [what's told of a row for row in rows if ..] -/
theorem lc_told (c : R → Bool) (f : R → Chg) (hD : H D = none) (hp : H p = some (.lst (refs as))) (hr : RowsAt A H as rs) (hn : rs.length ≤ 100000)
    (hs : ∀ (b : Addr) (o : R) (H' : Hp) (C : V → Hp → Prop) (N : Hp → Prop), o ∈ rs → RowAt A H' b o → Same H H' →
      (c o = true → ∀ (H2 : Hp) (n : Addr), Same H' H2 → H' n = none → H2 n = some (.tup ((chI (f o)).map V.int)) → C (.ref n) H2) → (c o = false → N H') →
      g (.ref b) (wipe σ vs) H' fun σ2 H2 => wipe σ2 vs = wipe σ vs ∧ tt σ2 H2 fun y H3 => if y = true then te σ2 H3 C else N H3)
    (hd : ∀ (H' : Hp) (bs : List Addr), Same H H' → H' D = some (.lst (refs bs)) → ChAt H' bs ((rs.filter c).map f) → Qd H') :
    ∃ W : Nat → Nat → Hp → Prop, (∃ m, W 0 m (upd H D (.lst []))) ∧ ∀ i m H, W i m H →
      ((Itl K p).stop i H ∧ Qd H) ∨ ((Itl K p).go i H ∧ ∃ Nx : Hp → Prop, (∀ H', Nx H' → ∃ m', m' < m ∧ W (i + 1) m' H') ∧ ∀ x H', (Itl K p).yld i H x H' → g x (wipe σ vs) H' fun σ2 H2 => wipe σ2 vs = wipe σ vs ∧ tt σ2 H2 fun b H3 =>
        if b = true then te σ2 H3 fun y H4 => ∃ acc, H4 D = some (.lst acc) ∧ acc.length < sizeLine ∧ Nx (upd H4 D (.lst (acc ++ [y]))) else Nx H3) := by
  have e0 : (refs as).length = rs.length := by unfold refs; rw [List.length_map]; exact hr.1
  refine lc_list (K := K) (a := p) (xs := refs as) (fun i H' => Same H H' ∧ ∃ bs, H' D = some (.lst (refs bs)) ∧ ChAt H' bs (((rs.take i).filter c).map f)) ⟨same_upd hD, [], upd_same, ChAt.nil⟩ (fun i H' _ ⟨k, _⟩ => SqL.of (k _ _ hp)) ?_ ?_
  · rintro i x H' hx ⟨k, bs, hb, hcb⟩
    obtain ⟨b, eb, rfl⟩ := refs_get hx
    obtain ⟨o, eo, hbo⟩ := hr.get eb
    have hi : i < rs.length := (List.getElem?_eq_some_iff.mp eo).1
    refine hs b o H' _ _ (List.mem_of_getElem? eo) (hbo.same k) k (fun ec H2 n k2 hn0 hn2 => ?_) (fun ec => ?_)
    · have hb2 := k2 _ _ hb
      have nD : n ≠ D := ne_of hn2 hb2 (by intro z; cases z)
      refine ⟨_, hb2, ?_, fun z o' ez => ?_, bs ++ [n], ?_, ?_⟩
      · refine line_lt' ?_
        have z := List.length_filter_le c (rs.take i)
        rw [List.length_take] at z
        have z2 := hcb.1
        rw [List.length_map] at z2
        unfold refs
        rw [List.length_map]
        omega
      · rw [upd_ne (ne_of_none ez hD)]
        exact k2 _ _ (k _ _ ez)
      · rw [upd_same, refs_snoc]
      · rw [filt_yes eo ec, List.map_append]
        exact ((hcb.same k2).upd hb2 fun xs z => by cases z).snoc (at_ne hn2 nD)
    · refine ⟨k, bs, hb, ?_⟩
      rw [filt_no eo ec]
      exact hcb
  · rintro H' ⟨k, bs, hb, hcb⟩
    rw [e0, List.take_length] at hcb
    exact hd H' bs k hb hcb
end
/-- what a call does to a join, and which changes it tells, in a new list -/
def Done (A : Adr) (H : Hp) (J : JA) (x : M × List Chg) (Q : VK) : Prop := ∀ (H' : Hp) (J' : JA) (p : Addr) (as : List Addr), J'.j = J.j → Kp (Ft J) H H' → JoinAt A H' J' x.1 → (∀ b, Ft J' b → Ft J b ∨ H b = none) → H' p = some (.lst (refs as)) → ChAt H' as x.2 → Q (.ref p) H'
def spGo (A : Adr) : Sp := fun vs H Q _ => ∃ (J : JA) (m : M) (s : Bool), vs = [.ref J.j, .int (sv s)] ∧ JoinAt A H J m ∧ JM.Sz 1000 m ∧ Done A H J (m.goOf s) Q
theorem k_set (J : JA) (s : Bool) (p : Addr) : ([.ref (J.k false), .ref (J.k true)] : List V).set (if s = true then 1 else 0) (.ref p) = [.ref (JM.up J.k s p false), .ref (JM.up J.k s p true)] := by cases s <;> rfl
theorem k_ixn (J : JA) (s : Bool) : ixN ([.ref (J.k false), .ref (J.k true)] : List V).length (sv s) = some (if s = true then 1 else 0) := by cases s <;> rfl
section
variable {P : Program} {w : World} {K : PySem.W.Frag} {mg : Str → Option Value} {base : Heap} {A : Adr}
theorem scGoOf : FnScope ["self", "side", "mark", "gone", "row"] ["self", "side"] (defScope (sJoin 7)) := ⟨rfl, rfl, rfl, by decide +kernel, rfl, by decide +kernel, by decide +kernel⟩
def teWant (K : PySem.W.Frag) (A : Adr) : TT := tB (tMeth A.CT "is_wanted" (spWanted A) [] E0 (tFld K (tVar 0) "terms") (tCons (tVar 1) (tCons (tVar 4) (tCons (tVar 2) tNil))))
theorem blGoOf (scope : Scope) (own : List (Str × Nat)) (h : blkC ["self", "side", "mark", "gone", "row"] (defScope (sJoin 7)) scope own = true) : BlkOk ["self", "side", "mark", "gone", "row"] (defScope (sJoin 7)) scope own := blkOk_by h
theorem ok_goOf (T : Txt K mg A) : Met P w K mg base CX0 9 A.CJ "go_of" (spGo A) := by
  refine met0 (k := 8) T.clJ T.mGoOf (fun _ _ _ _ _ _ us hl => match us, hl with | [_, _], _ => rfl) scGoOf (fun vs H Q E h => ?_) (fun f cdv Ar outer s H vs Q E hr h => ?_)
  rotate_left
  · refine ⟨_, pss_cons (ps_set (i := 2) scGoOf.nd rfl (.inr rfl) (pe_ix ix_list (pe_fld (pv 0) rfl) (pe_c (ok_other T) hr (by decide) pass0 (by rfl) (pa_cons (pv 1) pa_nil)) (fun _ _ => rfl)) (hf := .inl rfl))
      (pss_cons (ps_setLc (i := 3) (own := [("row", 4)]) (g := gName 4) (tt := tNot (teWant K A)) (te := tVar 4) rfl scGoOf.nd rfl rfl (sw_true rfl rfl rfl (by decide +kernel)) (pi_list (pe_ix ix_list (pe_fld (pv 0) rfl) (pv 1) (fun _ _ => rfl))) (blkOk_by (N := ["self", "side", "mark", "gone", "row"]) (sc := defScope (sJoin 7)) (by decide +kernel))
        (fun _ _ _ _ _ => pg_name (i := 4) scGoOf.nd rfl (Or.inl rfl)) (fun _ _ _ _ _ => pts_one (pt_not (pt_val (pe_mt (ok_wanted T) hr (by decide) pass0 (pe_fld (pv 0) rfl) (pa_cons (pv 1) (pa_cons (pv 4) (pa_cons (pv 2) pa_nil)))))))
        (fun _ _ _ _ _ => by exact pv 4))
      (pss_cons (ps_asg (pe_lc (own := [("row", 4)]) (g := gName 4) (tt := teWant K A) (te := tVar 4) rfl scGoOf.nd (pi_list (pe_ix ix_list (pe_fld (pv 0) rfl) (pv 1) (fun _ _ => rfl))) (blkOk_by (N := ["self", "side", "mark", "gone", "row"]) (sc := defScope (sJoin 7)) (by decide +kernel))
        (fun _ _ _ _ _ => pg_name (i := 4) scGoOf.nd rfl (Or.inl rfl)) (fun _ _ _ _ _ => pts_one (pt_val (pe_mt (ok_wanted T) hr (by decide) pass0 (pe_fld (pv 0) rfl) (pa_cons (pv 1) (pa_cons (pv 4) (pa_cons (pv 2) pa_nil))))))
        (fun _ _ _ _ _ => by exact pv 4)) (pg_sub (pe_fld (pv 0) rfl) (pv 1) set_list))
      (pss_cons (ps_if (pt_not (pt_val (pe_mt (ok_late T) hr (by decide) pass0 (pe_fld (pv 0) rfl) (pa_cons (pv 1) pa_nil)))) (pss_one (ps_ret (pe_lst pa_nil))) pss_nil)
      (pss_one (ps_ret (pe_lc (own := [("row", 4)]) (g := gName 4) (tt := tNot (tB (tFld K (tVar 4) "has_met"))) (te := tCall (spAlone A) [] E0 (tCons (tC (.int 1)) (tCons (tVar 1) (tCons (tVar 4) tNil)))) rfl scGoOf.nd (pi_list (pv 3)) (blkOk_by (N := ["self", "side", "mark", "gone", "row"]) (sc := defScope (sJoin 7)) (by decide +kernel))
        (fun _ _ _ _ _ => pg_name (i := 4) scGoOf.nd rfl (Or.inl rfl)) (fun _ _ _ _ _ => pts_one (pt_not (pt_val (pe_fld (pv 4) rfl))))
        (fun _ _ _ _ _ => by exact pe_c (ok_alone T) hr (by decide) pass0 (by rfl) (pa_cons (pe_ic T.TOLD rfl) (pa_cons (pv 1) (pa_cons (pv 4) pa_nil)))))))))), ?_⟩
    obtain ⟨J, m, s, rfl, hJ, hz, q⟩ := h
    refine ⟨_, rfl, J.j, A.CJ, J.dj, _, _, rfl, hJ.hj, T.clJ, T.nMarks, joinF_marks J _, _, rfl, s, rfl, J.pm, _, _, _, rfl, rfl, SqL.of hJ.hm, ix_side (fun b => nv (m.mark b)) (!s), ?_⟩
    have noK : ∀ {y : Str}, (y == ("kind" : Str)) = false → (y == ("ahead" : Str)) = false → (y == ("after" : Str)) = false → (y == ("eager" : Str)) = false → (termF m).lookup y = none := fun a b c d => termF_no m a b c d
    have hl : (m.kept s).length ≤ 100000 := Nat.le_trans (hz.1 s) (by decide)
    -- the rows that go
    refine ⟨_, rfl, J.j, A.CJ, J.dj, _, _, rfl, hJ.hj, T.clJ, T.nKept, joinF_kept J _, _, rfl, J.pk, _, _, _, rfl, rfl, SqL.of hJ.hk, ix_side (fun b => .ref (J.k b)) s, J.k s, rfl, ⟨_, SqL.of (hJ.hl s)⟩, fun D1 hD1 =>
      lc_filter (fun r => !m.want s r (m.mark (!s))) hD1 (hJ.hl s) (hJ.hr s) hl (fun b o H' C N _ hb k hy hn => ?_) (fun H1 gs k1 hg hrg _ => ?_)⟩
    · have J' := hJ.same k
      obtain ⟨dt, htt⟩ := J'.ht
      refine ⟨rfl, _, rfl, J.j, A.CJ, J.dj, _, _, rfl, J'.hj, T.clJ, T.nTerms, joinF_terms J _, J.t, dt, _, rfl, htt, noK (by decide +kernel) (by decide +kernel) (by decide +kernel) (by decide +kernel), _, rfl, _, rfl, _, rfl, J.t, b, m, s, o, m.mark (!s), rfl, ⟨dt, htt⟩, hb, _, rfl, ?_⟩
      refine ite2 (fun c => ⟨_, rfl, hy c _ fun _ _ e => e⟩) (fun c => hn (Bool.eq_false_iff.mpr c) _ fun _ _ e => e)
    have J1 := hJ.same k1
    -- the rows that stay
    refine ⟨_, rfl, J.j, A.CJ, J.dj, _, _, rfl, J1.hj, T.clJ, T.nKept, joinF_kept J _, _, rfl, J.pk, _, _, _, rfl, rfl, SqL.of J1.hk, ix_side (fun b => .ref (J.k b)) s, J.k s, rfl, ⟨_, SqL.of (J1.hl s)⟩, fun D2 hD2 =>
      lc_filter (fun r => m.want s r (m.mark (!s))) hD2 (J1.hl s) (J1.hr s) hl (fun b o H' C N _ hb k hy hn => ?_) (fun H2 bs k2 hb hrb sub => ?_)⟩
    · have J' := J1.same k
      obtain ⟨dt, htt⟩ := J'.ht
      refine ⟨rfl, _, rfl, J.j, A.CJ, J.dj, _, _, rfl, J'.hj, T.clJ, T.nTerms, joinF_terms J _, J.t, dt, _, rfl, htt, noK (by decide +kernel) (by decide +kernel) (by decide +kernel) (by decide +kernel), _, rfl, _, rfl, _, rfl, J.t, b, m, s, o, m.mark (!s), rfl, ⟨dt, htt⟩, hb, _, rfl, ?_⟩
      refine ite2 (fun c => ⟨_, rfl, hy c _ fun _ _ e => e⟩) (fun c => hn (Bool.eq_false_iff.mpr c) _ fun _ _ e => e)
    have J2 := J1.same k2
    refine ⟨_, rfl, J.j, A.CJ, J.dj, _, _, rfl, J2.hj, T.clJ, T.nKept, joinF_kept J _, _, rfl, J.pk, _, _, _, rfl, rfl, J2.hk, k_ixn J s, ?_⟩
    rw [k_set]
    have nf := J1.notFt hD2
    have J3 := J2.newKept hb nf s hrb sub
    have n1 : D1 ≠ J.pk := fun z => hJ.notFt hD1 (z ▸ Ft.pk)
    have hg3 := at_ne (u := .lst [.ref (JM.up J.k s D2 false), .ref (JM.up J.k s D2 true)]) (k2 _ _ hg) n1
    have hrg3 := (hrg.same k2).upd (o := .lst [.ref (JM.up J.k s D2 false), .ref (JM.up J.k s D2 true)]) ((hrg.same k2).ne J2.hk)
    have k3 : Kp (Ft J) H (upd H2 J.pk (.lst [.ref (JM.up J.k s D2 false), .ref (JM.up J.k s D2 true)])) := (Kp.of (k1.trans k2)).trans (Kp.upd Ft.pk)
    have f3 : ∀ b, Ft { J with k := JM.up J.k s D2, ra := JM.up J.ra s bs } b → Ft J b ∨ H b = none := fun b f => (ft_newKept sub f).imp id fun z => by rw [z]; exact k1.free hD2
    generalize upd H2 J.pk (.lst [.ref (JM.up J.k s D2 false), .ref (JM.up J.k s D2 true)]) = H3 at J3 hg3 hrg3 k3 ⊢
    obtain ⟨dt, htt⟩ := J3.ht
    refine ⟨_, rfl, J.j, A.CJ, J.dj, _, _, rfl, J3.hj, T.clJ, T.nTerms, joinF_terms _ _, J.t, dt, _, rfl, htt, noK (by decide +kernel) (by decide +kernel) (by decide +kernel) (by decide +kernel), _, rfl, J.t, _, s, rfl, ⟨dt, htt⟩, J3.kind, _, rfl, ?_⟩
    show if (!m.late s) = true then _ else _
    cases el : m.late s with
    | false =>
      have e : (m.goOf s).2 = [] := by unfold M.goOf; rw [el]; rfl
      refine iteT ⟨by show 0 ≤ sizeLine; decide, fun p hp => ?_⟩
      have s4 := same_upd (o := .lst []) hp
      refine q _ { J with k := JM.up J.k s D2, ra := JM.up J.ra s bs } p [] rfl (k3.trans (Kp.of s4)) (J3.same s4) f3 upd_same ?_
      rw [e]
      exact ChAt.nil
    | true =>
      have e : (m.goOf s).2 = (((m.kept s).filter fun r => !m.want s r (m.mark (!s))).filter fun r => !r.met).map (JM.chAlone true s) := by unfold M.goOf; rw [el]; rfl
      refine iteF ⟨_, rfl, D1, rfl, ⟨_, SqL.of hg3⟩, fun p hp => lc_told (fun r => !r.met) (JM.chAlone true s) hp hg3 hrg3 (Nat.le_trans (List.length_filter_le _ _) hl) (fun b o H' C N _ hb k hy hn => ?_) (fun H4 cs k4 hc4 hch => ?_)⟩
      · obtain ⟨db, hbb⟩ := hb
        refine ⟨rfl, _, rfl, b, A.CR, db, _, _, rfl, hbb, T.clR, T.nMet, rowF_met o, _, rfl, ?_⟩
        refine ite2 (fun c => ⟨_, rfl, _, rfl, true, s, b, o, rfl, ⟨db, hbb⟩, fun n hn0 => hy c _ n (same_upd hn0) hn0 upd_same⟩) (fun c => hn (Bool.eq_false_iff.mpr c))
      · refine q _ { J with k := JM.up J.k s D2, ra := JM.up J.ra s bs } p cs rfl (k3.trans (Kp.of k4)) (J3.same k4) f3 hc4 ?_
        rw [e]
        exact hch
  · obtain ⟨J, m, s, rfl, _⟩ := h
    rfl
end
end JW
/-! ### sorted by turn_of -/
namespace JW
open PySem PySem.Spec PyProof.Rows L2 PySem.W
open JM (M)
section
variable {prog : Program} {w : World} {A : Around} {s : Shared} {K : PySem.W.Frag}
/-- a call turn_of(row): it keeps all that was there, and gives (time, number) -/
theorem turn_run {f : Addr} {fd : FuncData} {a dx C : Addr} {mA : Str → Option Value} {t n : Int} (F : Fun K "turn_of" "turn_of" sTurn f fd) (c : Cls K C) (nT : NoAttr K C "time") (nN : NoAttr K C "number")
    (X : K.In s.heap) (hlim : s.heap.NoLimit) (hroom : A.depth < recursionLimit) (I : ObjM s.heap a dx C mA) (v1 v2 : Value) (e1 : mA "time" = some v1) (e2 : mA "number" = some v2) (r1 : RelV (.int t) v1) (r2 : RelV (.int n) v2) :
    wpAny (model prog w) A (call (.ref f) [.ref a]) (KeyPure (.tuple [.int t, .int n]) s) (fun _ _ => False) s := by
  obtain ⟨oc, od, kV, doc, pm, an, cdv, ct, osl, rfl, lk, hcd⟩ := F.ex
  refine wpAny_call (Att.call_fn (binds := [("row", .ref a)]) X hlim lk hcd hroom (BindsTo.of_eq (by first | rfl | with_unfolding_all rfl)) (by first | rfl | decide | with_unfolding_all rfl) (fun s₁ IC => ?_) rfl rfl rfl)
  obtain ⟨h₁, tk₁, rfl⟩ := IC.toInCall.same
  have k : ∀ b o, s.heap.get? b = some o → h₁.get? b = some o := IC.toInCall.keep
  have hn := IC.toInCall.ns
  have X₁ : K.In h₁ := X.keeps k
  have I₁ : ObjM h₁ a dx C mA := ⟨k _ _ I.obj, I.ns.keeps k, I.ne⟩
  refine wpAny_execs_cons (wpAny_Return_some (wpAny_Tuple_spliced ?_))
  refine Calls.spliced_cons (attr_of rfl (PySem.LowX.ldC (v := .ref a) hn (by first | rfl | with_unfolding_all rfl | kernel_rfl) ?_))
  refine get_map X₁ I₁ (c.get "time") c.hd nT e1 (handed_of r1) ?_
  refine Calls.spliced_cons (attr_of rfl (PySem.LowX.ldC (v := .ref a) hn (by first | rfl | with_unfolding_all rfl | kernel_rfl) ?_))
  refine get_map X₁ I₁ (c.get "number") c.hd nN e2 (handed_of r2) ?_
  refine Calls.spliced_nil ⟨by show 2 ≤ sizeLine; decide, ?_⟩
  obtain ⟨w1, rfl⟩ := r1
  obtain ⟨w2, rfl⟩ := r2
  refine ⟨_, _, rfl, fun b o e => Heap.get?_push_of_some _ (k b o e), .tuple (Heap.get?_push_size _ rfl) rfl rfl ?_⟩
  exact ReadsAll.cons (as := []) (bs := []) (.int _ _) (ReadsAll.cons (as := []) (bs := []) (.int _ _) .nil)
end
theorem vals_of_refs : ∀ as : List Addr, Vals (as.map V.ref) (as.map Value.ref)
  | [] => .nil
  | _ :: as => .cons rfl (vals_of_refs as)
theorem vals_refs : ∀ {as : List Addr} {its : List Value}, Vals (as.map V.ref) its → its = as.map Value.ref
  | [], _, .nil => rfl
  | a :: as, _, .cons r t => by
    rw [vals_refs t]
    have e : _ = Value.ref a := r
    rw [e]
    rfl
theorem rows_of_pairs {A : Adr} {H : Hp} (l : List (Addr × R)) (h : ∀ x ∈ l, RowAt A H x.1 x.2) : RowsAt A H (l.map Prod.fst) (l.map Prod.snd) := by
  refine ⟨by rw [List.length_map, List.length_map], fun i a r e1 e2 => ?_⟩
  rw [List.getElem?_map] at e1 e2
  cases e : l[i]? with
  | none => rw [e] at e1; cases e1
  | some x =>
    rw [e] at e1 e2
    have z1 : x.1 = a := Option.some.inj e1
    have z2 : x.2 = r := Option.some.inj e2
    subst z1 z2
    exact h x (List.mem_of_getElem? e)
theorem each_refs : ∀ l : List (Addr × R), EachIs (fun v (x : Addr × R) => v = Value.ref x.1) ((l.map Prod.fst).map Value.ref) l
  | [] => .nil
  | _ :: l => .cons rfl (each_refs l)
theorem each_refs_eq : ∀ {out : List Value} {l : List (Addr × R)}, EachIs (fun v (x : Addr × R) => v = Value.ref x.1) out l → out = (l.map Prod.fst).map Value.ref
  | _, _, .nil => rfl
  | _, _, .cons e t => by
    rw [e, each_refs_eq t]
    rfl
def rTurn (A : Adr) (f : Addr) : List V → List V → Hp → VK → Prop := fun vs zs H Q => ∃ (p : Addr) (as : List Addr) (rs : List R), vs = [.ref p] ∧ zs = [.ref f] ∧ H p = some (.lst (refs as)) ∧ RowsAt A H as rs ∧ rs.length ≤ 100000 ∧
  ∀ (q : Addr) (bs : List Addr), H q = none → RowsAt A H bs (rs.mergeSort JM.leR) → Q (.ref q) (upd H q (.lst (refs bs)))
theorem cr_turn {X : Cx} {A : Adr} {f : Addr} {fd : FuncData} {k : Nat} (F : Fun X.K "turn_of" "turn_of" sTurn f fd) (c : Cls X.K A.CR) (nT : NoAttr X.K A.CR "time") (nN : NoAttr X.K A.CR "number") (hr : Room k X.A) : CallRK X (.builtin "sorted") [Str.ofString "key"] (rTurn A f) := by
  intro pins s σ H vs zs us ws Q I r rz h
  obtain ⟨p, as, rs, rfl, rfl, hp, hrs, hlen, q⟩ := h
  obtain rfl := Vals.ref1 r
  obtain ⟨w1, rfl, e1⟩ := vals1 rz
  obtain rfl : w1 = Value.ref f := e1
  obtain ⟨its, rv, hl, hz⟩ := I.list (SqL.of hp)
  have ei : its = as.map Value.ref := vals_refs rv
  subst ei
  have hm : ∀ x ∈ as.zip rs, RowAt A H x.1 x.2 := fun x hx => by
    obtain ⟨i, hi⟩ := List.mem_iff_getElem?.mp hx
    rw [List.getElem?_zip_eq_some] at hi
    exact hrs.2 i _ _ hi.1 hi.2
  have ef : (as.zip rs).map Prod.fst = as := List.map_fst_zip (by rw [hrs.1]; exact Nat.le_refl _)
  have es : (as.zip rs).map Prod.snd = rs := List.map_snd_zip (by rw [hrs.1]; exact Nat.le_refl _)
  have each := each_refs (as.zip rs)
  rw [ef] at each
  have zl : (as.zip rs).length ≤ 100000 := by rw [List.length_zip]; omega
  show wpAny _ _ (call (.builtin "sorted") [.ref p] [(Str.ofString "key", .ref f)]) _ _ _
  refine sorted_key_data (b := false) (fun x : Addr × R => .tuple [.int (x.2.t : Nat), .int (x.2.id : Nat)]) hl.isList each (AllAlike.of fun _ _ => by simp [alike, alikeAll]) (Sortable.tuples fun _ => ⟨_, _, rfl⟩) (line_of' (by omega)) (fun x _ => ?_) (ksk_s1 _ _) (fun _ => ksk_l1 _ _) (fun _ => ksk_t1 _ _)
    (fun v x e hx h tk kp => ?_) fun out c h' tk kp hf hD ho eo => ?_
  · have hd : (PyData.tuple [.int (x.2.t : Nat), .int (x.2.id : Nat)]).depth = 1 := by simp [PyData.depth, PyData.depthAll]
    have hu := hr.units
    omega
  · subst e
    obtain ⟨dx, hx'⟩ := hm x hx
    obtain ⟨mA, O, rO, _, _, _⟩ := ins_get I.hok hx'
    obtain ⟨u1, hu1, ru1⟩ := RelO.some_of (v := nv x.2.t) (o := mA "time") (by rw [← rowF_time]; exact rO "time")
    obtain ⟨u2, hu2, ru2⟩ := RelO.some_of (v := nv x.2.id) (o := mA "number") (by rw [← rowF_number]; exact rO "number")
    exact turn_run (s := { s with heap := h, toks := tk }) (A := X.A.in1.in1) F c nT nN (I.kIn.keeps kp) (I.nolimit.keeps kp) (by show X.A.depth < _; exact hr.depth) ⟨kp _ _ O.obj, O.ns.keeps kp, O.ne⟩ u1 u2 hu1 hu2 ru1 ru2
  · rw [dataLe_ii (β := Addr × R) (fun x => ((x.2.t : Nat) : Int)) (fun x => ((x.2.id : Nat) : Int))] at eo
    have hsnd : ((as.zip rs).mergeSort fun p q => decide (((p.2.t : Nat) : Int) < ((q.2.t : Nat) : Int) ∨ (((p.2.t : Nat) : Int) = ((q.2.t : Nat) : Int) ∧ ((p.2.id : Nat) : Int) ≤ ((q.2.id : Nat) : Int)))).map Prod.snd = rs.mergeSort JM.leR :=
      (List.map_mergeSort (s := JM.leR) (f := Prod.snd) (l := as.zip rs) (fun _ _ _ _ => rfl)).trans (by rw [es])
    have hmem : ∀ x ∈ ((as.zip rs).mergeSort fun p q => decide (((p.2.t : Nat) : Int) < ((q.2.t : Nat) : Int) ∨ (((p.2.t : Nat) : Int) = ((q.2.t : Nat) : Int) ∧ ((p.2.id : Nat) : Int) ≤ ((q.2.id : Nat) : Int)))), RowAt A H x.1 x.2 := fun x hx => hm x (List.mem_mergeSort.mp hx)
    have hrow := rows_of_pairs _ hmem
    rw [hsnd] at hrow
    have eout := each_refs_eq eo
    generalize ((as.zip rs).mergeSort fun p q => decide (((p.2.t : Nat) : Int) < ((q.2.t : Nat) : Int) ∨ (((p.2.t : Nat) : Int) = ((q.2.t : Nat) : Int) ∧ ((p.2.id : Nat) : Int) ≤ ((q.2.id : Nat) : Int)))).map Prod.fst = bs at hrow eout
    subst eout
    have hbl : bs.length ≤ 1000000 := by
      have z := hrow.1
      rw [List.length_mergeSort] at z
      omega
    refine ⟨.ref (s.heap.objs.size + 1), upd H (s.heap.objs.size + 1) (.lst (refs bs)), I.laid (t' := tk) kp (Nat.le_succ _) ⟨?_, _, c, vals_of_refs bs, hD⟩, rfl, q _ _ (I.hok.fresh (Nat.le_succ _)) hrow⟩
    refine line_of' ?_
    unfold refs
    rw [List.length_map]
    exact hbl
end JW
/-! ### waiting ends; a mark goes up -/
namespace JW
open PySem PySem.Spec PyProof.Rows L2
open JM (M)
theorem Post.from {A : Adr} {H H1 : Hp} {J : JA} {x : M × List Int} {Q : VK} (q : Post A H J x Q) (k : Kp (Ft J) H H1) (f : ∀ b, H1 b = none → H b = none) : Post A H1 J x Q := fun H' J' p ej k' j' ft nw hl => q H' J' p ej (k.trans k') j' (fun b fb => (ft b fb).imp id (f b)) (nw.imp id (f p)) hl
theorem Done.post {A : Adr} {H : Hp} {J : JA} {x : M × List Chg} {Q : VK} {E : XK} (hl : x.2.length ≤ 100000) (q : Post A H J (x.1, Hs06.ints (Hs06.changes x.2)) Q) : Done A H J x (fun v H' => spChanges [v] H' Q E) := fun H' J' p as ej k j' f hp hc =>
  ⟨p, as, x.2, rfl, hp, hc, hl, fun H2 q2 s2 hq2 hl2 => q H2 J' q2 ej (k.trans (Kp.of s2)) (j'.same s2) f (nw_of k hq2) hl2⟩
theorem Post.post' {A : Adr} {H : Hp} {J : JA} {x : M × List Chg} {Q : VK} {E : XK} (q : Post A H J (x.1, Hs06.ints (Hs06.changes x.2)) Q) (hl : x.2.length ≤ 100000) : Done A H J x (fun v H' => spChanges [v] H' Q E) := Done.post hl q
def spEndW (A : Adr) : Sp := fun vs H Q _ => ∃ (J : JA) (m : M), vs = [.ref J.j] ∧ JoinAt A H J m ∧ JM.Sz 1000 m ∧ Done A H J m.endWait Q
def spRaise (A : Adr) : Sp := fun vs H Q E => ∃ (J : JA) (m : M) (s : Bool) (t : Nat), vs = [.ref J.j, .int (sv s), nv t] ∧ JoinAt A H J m ∧ JM.Sz 1000 m ∧ (t < m.mark s → Rais A H E (-2)) ∧ (¬ t < m.mark s → 1000001 < t → Rais A H E (-3)) ∧
  (¬ t < m.mark s → ¬ 1000001 < t → Post A H J ((m.raise s t).1, Hs06.ints (Hs06.changes (m.raise s t).2)) Q)
section
variable {P : Program} {w : World} {K : PySem.W.Frag} {mg : Str → Option Value} {base : Heap} {A : Adr}
theorem scEndW : FnScope ["self", "mark", "over", "row"] ["self"] (defScope (sJoin 8)) := ⟨rfl, rfl, rfl, by decide +kernel, rfl, by decide +kernel, by decide +kernel⟩
theorem ok_endW (T : Txt K mg A) : Met P w K mg base CX0 12 A.CJ "end_waiting" (spEndW A) := by
  refine met0 (k := 11) T.clJ T.mEndW (fun _ _ _ _ _ _ us hl => match us, hl with | [_], _ => rfl) scEndW (fun vs H Q E h => ?_) (fun f cdv Ar outer s H vs Q E hr h => ?_)
  rotate_left
  · obtain ⟨ft, fd, F, hm⟩ := T.dTurn.ex
    refine ⟨_, pss_cons (ps_set (i := 1) scEndW.nd rfl (.inr rfl) (pe_ix ix_list (pe_fld (pv 0) rfl) (pe_ic T.RIGHT rfl) (fun _ _ => rfl)) (hf := .inl rfl))
      (pss_cons (ps_set (i := 2) scEndW.nd rfl (.inl rfl) (pe_callBK (cr_turn (A := A) F T.clR T.nTime T.nNumber hr) (by rfl) T.bSorted (by decide +kernel)
        (pa_cons (pe_lc (own := [("row", 3)]) (g := gName 3) (tt := tTest (tOp qLt (tFld K (tVar 3) "time") (tVar 1))) (te := tVar 3) rfl scEndW.nd (pi_list (pe_ix ix_list (pe_fld (pv 0) rfl) (pe_ic T.LEFT rfl) (fun _ _ => rfl))) (blkOk_by (N := ["self", "mark", "over", "row"]) (sc := defScope (sJoin 8)) (by decide +kernel))
          (fun _ _ _ _ _ => pg_name (i := 3) scEndW.nd rfl (Or.inl rfl)) (fun _ _ _ _ _ => pts_one (pt_cmpR op_lt (pe_fld (pv 3) rfl) (pv 1) (nomark _))) (fun _ _ _ _ _ => by exact pv 3)) pa_nil)
        (pk_cons (pe_glob (v := .ref ft) rfl hm rfl) pk_nil)))
      (pss_cons (ps_asg (pe_lc (own := [("row", 3)]) (g := gName 3) (tt := tTest (tOp (rI0 fun i j => .bl (decide (j ≤ i))) (tFld K (tVar 3) "time") (tVar 1))) (te := tVar 3) rfl scEndW.nd (pi_list (pe_ix ix_list (pe_fld (pv 0) rfl) (pe_ic T.LEFT rfl) (fun _ _ => rfl))) (blkOk_by (N := ["self", "mark", "over", "row"]) (sc := defScope (sJoin 8)) (by decide +kernel))
          (fun _ _ _ _ _ => pg_name (i := 3) scEndW.nd rfl (Or.inl rfl)) (fun _ _ _ _ _ => pts_one (pt_cmpR op_ge (pe_fld (pv 3) rfl) (pv 1) (nomark _))) (fun _ _ _ _ _ => by exact pv 3)) (pg_sub (pe_fld (pv 0) rfl) (pe_ic T.LEFT rfl) set_list))
      (pss_one (ps_ret (pe_lc (own := [("row", 3)]) (g := gName 3) (tt := tYes) (te := tMeth A.CJ "told_at" (spToldAt A) [] E0 (tVar 0) (tCons (tVar 3) tNil)) rfl scEndW.nd (pi_list (pv 2)) (blkOk_by (N := ["self", "mark", "over", "row"]) (sc := defScope (sJoin 8)) (by decide +kernel))
          (fun _ _ _ _ _ => pg_name (i := 3) scEndW.nd rfl (Or.inl rfl)) (fun _ _ _ _ _ => pts_nil) (fun _ _ _ _ _ => by exact pe_mt (ok_toldAt T) hr (by decide) pass0 (pv 0) (pa_cons (pv 3) pa_nil))))))), ?_⟩
    obtain ⟨J, m, rfl, hJ, hz, q⟩ := h
    have hl : (m.kept false).length ≤ 100000 := Nat.le_trans (hz.1 false) (by decide)
    refine ⟨_, rfl, J.j, A.CJ, J.dj, _, _, rfl, hJ.hj, T.clJ, T.nMarks, joinF_marks J _, J.pm, _, _, _, rfl, rfl, SqL.of hJ.hm, ix_side (fun b => nv (m.mark b)) true, ?_⟩
    refine ⟨_, rfl, J.j, A.CJ, J.dj, _, _, rfl, hJ.hj, T.clJ, T.nKept, joinF_kept J _, J.pk, _, _, _, rfl, rfl, SqL.of hJ.hk, ix_side (fun b => .ref (J.k b)) false, J.k false, rfl, ⟨_, SqL.of (hJ.hl false)⟩, fun D1 hD1 =>
      lc_filter (fun r => decide (r.t < m.mark true)) hD1 (hJ.hl false) (hJ.hr false) hl (fun b o H' C N _ hb k hy hn => ?_) (fun H1 gs k1 hg hrg _ => ?_)⟩
    · obtain ⟨db, hbb⟩ := hb
      refine ⟨rfl, _, rfl, b, A.CR, db, _, _, rfl, hbb, T.clR, T.nTime, rowF_time o, _, rfl, _, _, rfl, rfl, _, rfl, ?_⟩
      show if decide ((o.t : Int) < (m.mark true : Int)) = true then _ else _
      rw [side_dec]
      exact ite2 (fun c => ⟨_, rfl, hy c _ fun _ _ e => e⟩) (fun c => hn (Bool.eq_false_iff.mpr c) _ fun _ _ e => e)
    -- sorted
    refine ⟨D1, gs, _, rfl, rfl, hg, hrg, Nat.le_trans (List.length_filter_le _ _) hl, fun S ss hS hrs => ?_⟩
    have k2 := k1.trans (same_upd (o := .lst (refs ss)) hS)
    have hs2 : upd H1 S (.lst (refs ss)) S = some (.lst (refs ss)) := upd_same
    have hrs2 := hrs.same (same_upd (o := .lst (refs ss)) hS)
    have nS : H S = none := k1.free hS
    generalize upd H1 S (.lst (refs ss)) = H2 at k2 hs2 hrs2 ⊢
    have J2 := hJ.same k2
    -- the rows that stay
    refine ⟨_, rfl, J.j, A.CJ, J.dj, _, _, rfl, J2.hj, T.clJ, T.nKept, joinF_kept J _, J.pk, _, _, _, rfl, rfl, SqL.of J2.hk, ix_side (fun b => .ref (J.k b)) false, J.k false, rfl, ⟨_, SqL.of (J2.hl false)⟩, fun D2 hD2 =>
      lc_filter (fun r => decide (m.mark true ≤ r.t)) hD2 (J2.hl false) (J2.hr false) hl (fun b o H' C N _ hb k hy hn => ?_) (fun H3 bs k3 hb hrb sub => ?_)⟩
    · obtain ⟨db, hbb⟩ := hb
      refine ⟨rfl, _, rfl, b, A.CR, db, _, _, rfl, hbb, T.clR, T.nTime, rowF_time o, _, rfl, _, _, rfl, rfl, _, rfl, ?_⟩
      show if decide ((m.mark true : Int) ≤ (o.t : Int)) = true then _ else _
      have e : decide ((m.mark true : Int) ≤ (o.t : Int)) = decide (m.mark true ≤ o.t) := decide_eq_decide.mpr (by omega)
      rw [e]
      exact ite2 (fun c => ⟨_, rfl, hy c _ fun _ _ e => e⟩) (fun c => hn (Bool.eq_false_iff.mpr c) _ fun _ _ e => e)
    have J3 := J2.same k3
    refine ⟨_, rfl, J.j, A.CJ, J.dj, _, _, rfl, J3.hj, T.clJ, T.nKept, joinF_kept J _, J.pk, _, _, _, rfl, rfl, J3.hk, k_ixn J false, ?_⟩
    have ek := k_set J false D2
    rw [if_neg (by decide)] at ek
    have nf := J2.notFt hD2
    have J4 := J3.newKept hb nf false hrb sub
    have n1 : S ≠ J.pk := fun z => hJ.notFt nS (z ▸ Ft.pk)
    have hs4 := at_ne (u := .lst [.ref (JM.up J.k false D2 false), .ref (JM.up J.k false D2 true)]) (k3 _ _ hs2) n1
    have hrs4 := (hrs2.same k3).upd (o := .lst [.ref (JM.up J.k false D2 false), .ref (JM.up J.k false D2 true)]) ((hrs2.same k3).ne J3.hk)
    have k4 : Kp (Ft J) H (upd H3 J.pk (.lst [.ref (JM.up J.k false D2 false), .ref (JM.up J.k false D2 true)])) := (Kp.of (k2.trans k3)).trans (Kp.upd Ft.pk)
    have f4 : ∀ b, Ft { J with k := JM.up J.k false D2, ra := JM.up J.ra false bs } b → Ft J b ∨ H b = none := fun b f => (ft_newKept sub f).imp id fun z => by rw [z]; exact k2.free hD2
    rw [if_neg (by decide), ek]
    generalize upd H3 J.pk (.lst [.ref (JM.up J.k false D2 false), .ref (JM.up J.k false D2 true)]) = H4 at J4 hs4 hrs4 k4 ⊢
    have no4 : (joinF J m.aside).lookup ("told_at" : Str) = none := joinF_no J _ (by decide +kernel) (by decide +kernel) (by decide +kernel) (by decide +kernel) (by decide +kernel) (by decide +kernel)
    have sl : (((m.kept false).filter fun r => decide (r.t < m.mark true)).mergeSort JM.leR).length ≤ 100000 := by
      rw [List.length_mergeSort]
      exact Nat.le_trans (List.length_filter_le _ _) hl
    refine ⟨_, rfl, S, rfl, ⟨_, SqL.of hs4⟩, fun p hp => lc_told (fun _ => true) m.toldAt hp hs4 hrs4 sl (fun b o H' C N _ hb k hy hn => ?_) (fun H5 cs k5 hc5 hch => ?_)⟩
    · have J' := J4.same k
      exact ⟨rfl, _, rfl, J.j, J.dj, _, rfl, J'.hj, no4, _, rfl, { J with k := JM.up J.k false D2, ra := JM.up J.ra false bs }, _, b, o, rfl, J', hb, fun H2 n k2 hn hl => hy rfl H2 n k2 hn hl⟩
    · refine q _ { J with k := JM.up J.k false D2, ra := JM.up J.ra false bs } p cs rfl (k4.trans (Kp.of k5)) (J4.same k5) f4 hc5 ?_
      rw [List.filter_eq_self.mpr (fun _ _ => rfl)] at hch
      exact hch
  · obtain ⟨J, m, rfl, _⟩ := h
    rfl
theorem scRaise : FnScope ["self", "side", "time"] ["self", "side", "time"] (defScope (sJoin 9)) := ⟨rfl, rfl, rfl, by decide +kernel, rfl, by decide +kernel, by decide +kernel⟩
theorem ok_raise (T : Txt K mg A) : Met P w K mg base (L2.CX P w) 15 A.CJ "raise_mark" (spRaise A) := by
  refine metX (k := 14) T.clJ T.mRaise (fun _ _ _ _ _ _ us hl => match us, hl with | [_, _, _], _ => rfl) scRaise (fun vs H Q E h => ?_) (fun f cdv Ar outer s H vs Q E hr h => ?_)
  rotate_left
  · refine ⟨_, pss_cons (ps_expr (pe_c (ok_ask T) hr (by decide) passE (by rfl) (pa_cons (pe_cmpR op_ge (pv 2) (pe_ix ix_list (pe_fld (pv 0) rfl) (pv 1) (fun _ _ => rfl)) (nomark _)) (pa_cons (pe_ic T.BEYOND rfl) pa_nil))))
      (pss_cons (ps_expr (pe_c (ok_ask T) hr (by decide) passE (by rfl) (pa_cons (pe_cmpR op_le (pv 2) (pe_op op_add (pe_ic T.MOST_TIME rfl) pe_int) (nomark _)) (pa_cons (pe_ic T.NOT_GRANTED rfl) pa_nil))))
      (pss_cons (ps_asg (pv 2) (pg_sub (pe_fld (pv 0) rfl) (pv 1) set_list))
      (pss_cons (ps_if (pt_not (pt_val (pe_mt0 (ok_isMoment T) hr (by decide) pass0 (pe_fld (pv 0) rfl))))
        (pss_one (ps_ret (pe_c (ok_changes T) hr (by decide) pass0 (by rfl) (pa_cons (pe_mt (ok_goOf T) hr (by decide) pass0 (pv 0) (pa_cons (pe_c (ok_other T) hr (by decide) pass0 (by rfl) (pa_cons (pv 1) pa_nil)) pa_nil)) pa_nil)))) pss_nil)
      (pss_cons (ps_if (pt_cmpR op_eq (pv 1) (pe_ic T.RIGHT rfl) (nomark _))
        (pss_one (ps_ret (pe_c (ok_changes T) hr (by decide) pass0 (by rfl) (pa_cons (pe_mt0 (ok_endW T) hr (by decide) pass0 (pv 0)) pa_nil)))) pss_nil)
      (pss_one (ps_ret (pe_c (ok_changes T) hr (by decide) pass0 (by rfl) (pa_cons (pe_lst pa_nil) pa_nil)))))))), ?_⟩
    obtain ⟨J, m, s, t, rfl, hJ, hz, h1, h2, h3⟩ := h
    refine ⟨_, rfl, _, rfl, J.j, A.CJ, J.dj, _, _, rfl, hJ.hj, T.clJ, T.nMarks, joinF_marks J _, _, rfl, J.pm, _, _, _, rfl, rfl, SqL.of hJ.hm, ix_side (fun b => nv (m.mark b)) s, _, _, rfl, rfl, _, _, rfl, fun c1 => ?_, fun c1 => h1 (by rw [decide_eq_false_iff_not] at c1; omega)⟩
    rw [decide_eq_true_eq] at c1
    have n1 : ¬ t < m.mark s := by omega
    refine ⟨_, rfl, _, _, rfl, rfl, _, _, rfl, rfl, _, _, rfl, fun c2 => ?_, fun c2 => h2 n1 (by rw [decide_eq_false_iff_not] at c2; omega)⟩
    rw [decide_eq_true_eq] at c2
    have n2 : ¬ 1000001 < t := by omega
    have q := h3 n1 n2
    refine ⟨_, rfl, _, rfl, J.j, A.CJ, J.dj, _, _, rfl, hJ.hj, T.clJ, T.nMarks, joinF_marks J _, _, rfl, J.pm, _, _, _, rfl, rfl, hJ.hm, both_ixn m.mark s, ?_⟩
    rw [both_up]
    have J1 := hJ.setMarks (JM.up m.mark s t)
    have k1 : Kp (Ft J) H (upd H J.pm (.lst (both (JM.up m.mark s t)))) := Kp.upd Ft.pm
    have f1 : ∀ b, upd H J.pm (.lst (both (JM.up m.mark s t))) b = none → H b = none := fun b z => (no_ne z).2
    generalize upd H J.pm (.lst (both (JM.up m.mark s t))) = H1 at J1 k1 f1 ⊢
    have q1 := q.from k1 f1
    have hz1 : JM.Sz 1000 (m.marked s t) := hz
    have rl := Nat.le_trans (JM.raise_len hz s t) (by decide : 1000 ≤ 100000)
    obtain ⟨dt, htt⟩ := J1.ht
    have noK : ∀ {y : Str}, (y == ("kind" : Str)) = false → (y == ("ahead" : Str)) = false → (y == ("after" : Str)) = false → (y == ("eager" : Str)) = false → (termF m).lookup y = none := fun a b c d => termF_no m a b c d
    have noJ : ∀ {y : Str}, (y == ("terms" : Str)) = false → (y == ("marks" : Str)) = false → (y == ("taken" : Str)) = false → (y == ("kept" : Str)) = false → (y == ("aside" : Str)) = false → (y == ("versions" : Str)) = false → (joinF J m.aside).lookup y = none := fun a b c d e f => joinF_no J _ a b c d e f
    refine ⟨_, rfl, J.j, A.CJ, J.dj, _, _, rfl, J1.hj, T.clJ, T.nTerms, joinF_terms J _, J.t, dt, _, rfl, htt, noK (by decide +kernel) (by decide +kernel) (by decide +kernel) (by decide +kernel), J.t, _, rfl, ⟨dt, htt⟩, _, rfl, ?_⟩
    refine ite2 (fun c => ?_) (fun c => ?_)
    · have c3 : ¬ m.kind = 3 := fun z => by
        have e : decide (m.kind = 3) = true := decide_eq_true z
        have c : (!decide (m.kind = 3)) = true := c
        rw [e] at c
        cases c
      have e : m.raise s t = (m.marked s t).goOf (!s) := by unfold M.raise; rw [if_neg c3]
      rw [e] at q1 rl
      exact ⟨_, rfl, J.j, J.dj, _, rfl, J1.hj, noJ (by decide +kernel) (by decide +kernel) (by decide +kernel) (by decide +kernel) (by decide +kernel) (by decide +kernel), _, rfl, s, rfl, J, m.marked s t, (!s), rfl, J1, hz1, q1.post' (E := E0) rl⟩
    · have c3 : m.kind = 3 := Classical.byContradiction fun z => c (by
        show (!decide (m.kind = 3)) = true
        rw [decide_eq_false z]
        rfl)
      refine ⟨_, rfl, rfl, _, rfl, ?_⟩
      rw [side_right]
      cases s with
      | true =>
        have e : m.raise true t = (m.marked true t).endWait := by unfold M.raise; rw [if_pos c3, if_pos rfl]
        rw [e] at q1 rl
        exact iteT ⟨_, rfl, J.j, J.dj, _, rfl, J1.hj, noJ (by decide +kernel) (by decide +kernel) (by decide +kernel) (by decide +kernel) (by decide +kernel) (by decide +kernel), J, m.marked true t, rfl, J1, hz1, q1.post' (E := E0) rl⟩
      | false =>
        have e : m.raise false t = (m.marked false t, []) := by unfold M.raise; rw [if_pos c3, if_neg (by decide)]
        rw [e] at q1
        refine iteF ⟨by show 0 ≤ sizeLine; decide, fun p hp => ?_⟩
        have s2 := same_upd (o := .lst []) hp
        exact q1.post' (E := E0) (x := (m.marked false t, [])) (by show 0 ≤ 100000; decide) _ J p [] rfl (Kp.of s2) (J1.same s2) (fun b f => .inl f) upd_same ChAt.nil
  · obtain ⟨J, m, s, t, rfl, _⟩ := h
    rfl
end
end JW
/-! ### what is shown, the counts, a version; what a call answers -/
namespace JW
open PySem PySem.Spec PyProof.Rows L2
open JM (M)
/-- what a call is to do: refused, or done -/
structure PostX (A : Adr) (H : Hp) (J : JA) (m : M) (c : Hs06.Call) (Q : VK) (E : XK) : Prop where
  err : ∀ n, m.exec c = .error n → Rais A H E n
  ok : ∀ x, m.exec c = .ok x → Post A H J x Q
def spShow (A : Adr) : Sp := fun vs H Q _ => ∃ (J : JA) (m : M) (s : Bool), vs = [.ref J.j, .int (sv s)] ∧ JoinAt A H J m ∧ JM.Sz 1000 m ∧ Post A H J (m, Hs06.ints (Hs06.rows (m.shown s))) Q
def spCounts (A : Adr) : Sp := fun vs H Q _ => ∃ (J : JA) (m : M), vs = [.ref J.j] ∧ JoinAt A H J m ∧ Post A H J (m, Hs06.ints [m.taken false, m.taken true, m.aside, m.mark false, m.mark true]) Q
def spAt (A : Adr) : Sp := fun vs H Q E => ∃ (J : JA) (m : M) (key t : Nat), vs = [.ref J.j, nv key, nv t] ∧ JoinAt A H J m ∧ PostX A H J m (.at_ key t) Q E
def spTold (A : Adr) : Sp := fun vs H Q E => ∃ (J : JA) (m : M) (q : Addr) (c : Hs06.Call), vs = [.ref J.j, .ref q] ∧ JoinAt A H J m ∧ JM.Sz 1000 m ∧ H q = some (.lst ((JM.enc c).map V.int)) ∧ JM.code c ≠ 0 ∧ PostX A H J m c Q E
theorem Same.rfl' {H : Hp} : Same H H := fun _ _ e => e
section
variable {P : Program} {w : World} {K : PySem.W.Frag} {mg : Str → Option Value} {base : Heap} {A : Adr}
theorem scShow : FnScope ["self", "side", "waiting", "mark", "one"] ["self", "side"] (defScope (sJoin 10)) := ⟨rfl, rfl, rfl, by decide +kernel, rfl, by decide +kernel, by decide +kernel⟩
theorem ok_show (T : Txt K mg A) : Met P w K mg base CX0 12 A.CJ "show" (spShow A) := by
  refine met0 (k := 11) T.clJ T.mShow (fun _ _ _ _ _ _ us hl => match us, hl with | [_, _], _ => rfl) scShow (fun vs H Q E h => ?_) (fun f cdv Ar outer s H vs Q E hr h => ?_)
  rotate_left
  · refine ⟨_, pss_cons (ps_if (PW.pt (pw_or (pt_cmpR op_eq (pv 1) (pe_ic T.LEFT rfl) (nomark _)) (pw_or1 (pt_not (pt_val (pe_mt0 (ok_isMoment T) hr (by decide) pass0 (pe_fld (pv 0) rfl)))))))
        (pss_one (ps_ret (pe_c (ok_rows T) hr (by decide) pass0 (by rfl) (pa_cons (pe_ix ix_list (pe_fld (pv 0) rfl) (pv 1) (fun _ _ => rfl)) pa_nil)))) pss_nil)
      (pss_cons (ps_set (i := 2) scShow.nd rfl (.inr rfl) (pe_ix ix_list (pe_fld (pv 0) rfl) (pe_ic T.LEFT rfl) (fun _ _ => rfl)) (hf := .inl rfl))
      (pss_cons (ps_set (i := 3) scShow.nd rfl (.inr rfl) (pe_ix ix_list (pe_fld (pv 0) rfl) (pe_ic T.LEFT rfl) (fun _ _ => rfl)) (hf := .inl rfl))
      (pss_one (ps_ret (pe_c (ok_rows T) hr (by decide) pass0 (by rfl) (pa_cons (pe_lc (own := [("one", 4)]) (g := gName 4) (tt := tB (tCall (spKept A) [] E0 (tCons (tFld K (tVar 0) "versions") (tCons (tVar 4) (tCons (tVar 2) (tCons (tVar 3) tNil)))))) (te := tVar 4) rfl scShow.nd (pi_list (pe_fld (pv 0) rfl)) (blkOk_by (N := ["self", "side", "waiting", "mark", "one"]) (sc := defScope (sJoin 10)) (by decide +kernel))
        (fun _ _ _ _ _ => pg_name (i := 4) scShow.nd rfl (Or.inl rfl)) (fun _ _ _ _ _ => pts_one (pt_val (by exact pe_c (ok_kept T) hr (by decide) pass0 (by rfl) (pa_cons (pe_fld (pv 0) rfl) (pa_cons (pv 4) (pa_cons (pv 2) (pa_cons (pv 3) pa_nil)))))))
        (fun _ _ _ _ _ => by exact pv 4)) pa_nil)))))), ?_⟩
    obtain ⟨J, m, s, rfl, hJ, hz, q⟩ := h
    have kept : s = false ∨ m.kind ≠ 3 → tRet (tCall (spRows A) [] E0 (tCons (tOp (rIxL K) (tFld K (tVar 0) "kept") (tVar 1)) tNil)) { nx := fun _ H' => Q .non H', rt := Q } [some (.ref J.j), some (.int (sv s)), none, none, none] H := fun c => by
      have e : m.shown s = m.kept s := by unfold M.shown; exact if_pos c
      rw [e] at q
      exact ⟨_, rfl, J.j, A.CJ, J.dj, _, _, rfl, hJ.hj, T.clJ, T.nKept, joinF_kept J _, _, rfl, J.pk, _, _, _, rfl, rfl, SqL.of hJ.hk, ix_side (fun b => .ref (J.k b)) s, J.k s, J.ra s, m.kept s, rfl, hJ.hl s, hJ.hr s, Nat.le_trans (hz.1 s) (by decide),
        fun H' p k hp hl => q H' J p rfl (Kp.of k) (hJ.same k) (fun b f => .inl f) (.inr hp) hl⟩
    refine ⟨_, rfl, rfl, _, rfl, ?_⟩
    rw [side_left]
    cases s with
    | false => exact iteT (iteT (kept (.inl rfl)))
    | true =>
      obtain ⟨dt, htt⟩ := hJ.ht
      refine iteF ⟨_, rfl, J.j, A.CJ, J.dj, _, _, rfl, hJ.hj, T.clJ, T.nTerms, joinF_terms J _, J.t, dt, _, rfl, htt, termF_no m (by decide +kernel) (by decide +kernel) (by decide +kernel) (by decide +kernel), J.t, _, rfl, ⟨dt, htt⟩, _, rfl, ?_⟩
      refine ite2 (fun c => ?_) (fun c => ?_)
      · refine kept (.inr fun z => ?_)
        rw [decide_eq_true z] at c
        cases c
      · have c3 : m.kind = 3 := Classical.byContradiction fun z => c (by rw [decide_eq_false z] <;> rfl)
        have e : m.shown true = m.vers.filter (JM.keptV m.vers (m.kept false) (m.mark false)) := by
          unfold M.shown
          refine if_neg ?_
          rintro (z | z)
          · cases z
          · exact z c3
        rw [e] at q
        have hl : m.vers.length ≤ 100000 := Nat.le_trans hz.2 (by decide)
        refine ⟨_, rfl, J.j, A.CJ, J.dj, _, _, rfl, hJ.hj, T.clJ, T.nKept, joinF_kept J _, J.pk, _, _, _, rfl, rfl, SqL.of hJ.hk, ix_side (fun b => .ref (J.k b)) false, ?_⟩
        refine ⟨_, rfl, J.j, A.CJ, J.dj, _, _, rfl, hJ.hj, T.clJ, T.nMarks, joinF_marks J _, J.pm, _, _, _, rfl, rfl, SqL.of hJ.hm, ix_side (fun b => nv (m.mark b)) false, ?_⟩
        refine ⟨_, rfl, J.j, A.CJ, J.dj, _, _, rfl, hJ.hj, T.clJ, T.nVersions, joinF_versions J _, J.pv, rfl, ⟨_, SqL.of hJ.hv⟩, fun D hD => lc_filter (JM.keptV m.vers (m.kept false) (m.mark false)) hD hJ.hv hJ.hw hl (fun b o H' C N _ hb k hy hn => ?_) (fun H1 bs k1 hb hrb _ => ?_)⟩
        · have J' := hJ.same k
          refine ⟨rfl, _, rfl, J.j, A.CJ, J.dj, _, _, rfl, J'.hj, T.clJ, T.nVersions, joinF_versions J _, _, rfl, _, rfl, _, rfl, J.pv, b, J.k false, m.mark false, J.va, J.ra false, m.vers, m.kept false, o, rfl, J'.hv, J'.hw, J'.hl false, J'.hr false, hb, Nat.le_trans (hz.1 false) (by decide), fun H2 k2 => ⟨_, rfl, ?_⟩⟩
          exact ite2 (fun c => ⟨_, rfl, hy c _ k2⟩) (fun c => hn (Bool.eq_false_iff.mpr c) _ k2)
        · exact ⟨D, bs, _, rfl, hb, hrb, Nat.le_trans (List.length_filter_le _ _) hl, fun H' p k hp hl => q H' J p rfl (Kp.of (k1.trans k)) ((hJ.same k1).same k) (fun b f => .inl f) (.inr (k1.free hp)) hl⟩
  · obtain ⟨J, m, s, rfl, _⟩ := h
    rfl
theorem scCounts : FnScope ["self"] ["self"] (defScope (sJoin 11)) := ⟨rfl, rfl, rfl, by decide +kernel, rfl, by decide +kernel, by decide +kernel⟩
theorem ok_counts (T : Txt K mg A) : Met P w K mg base CX0 3 A.CJ "counts" (spCounts A) := by
  refine met0 (k := 2) T.clJ T.mCounts (fun _ _ _ _ _ _ us hl => match us, hl with | [_], _ => rfl) scCounts (fun vs H Q E h => ?_) (fun f cdv Ar outer s H vs Q E hr h => ?_)
  rotate_left
  · refine ⟨_, pss_one (ps_ret (pe_lst (pa_cons (pe_ix ix_list (pe_fld (pv 0) rfl) (pe_ic T.LEFT rfl) (fun _ _ => rfl)) (pa_cons (pe_ix ix_list (pe_fld (pv 0) rfl) (pe_ic T.RIGHT rfl) (fun _ _ => rfl)) (pa_cons (pe_fld (pv 0) rfl)
      (pa_cons (pe_ix ix_list (pe_fld (pv 0) rfl) (pe_ic T.LEFT rfl) (fun _ _ => rfl)) (pa_cons (pe_ix ix_list (pe_fld (pv 0) rfl) (pe_ic T.RIGHT rfl) (fun _ _ => rfl)) pa_nil))))))), ?_⟩
    obtain ⟨J, m, rfl, hJ, q⟩ := h
    refine ⟨_, rfl, J.j, A.CJ, J.dj, _, _, rfl, hJ.hj, T.clJ, T.nTaken, joinF_taken J _, J.pt, _, _, _, rfl, rfl, SqL.of hJ.hn, ix_side (fun b => nv (m.taken b)) false, ?_⟩
    refine ⟨_, rfl, J.j, A.CJ, J.dj, _, _, rfl, hJ.hj, T.clJ, T.nTaken, joinF_taken J _, J.pt, _, _, _, rfl, rfl, SqL.of hJ.hn, ix_side (fun b => nv (m.taken b)) true, ?_⟩
    refine ⟨_, rfl, J.j, A.CJ, J.dj, _, _, rfl, hJ.hj, T.clJ, T.nAside, joinF_aside J _, ?_⟩
    refine ⟨_, rfl, J.j, A.CJ, J.dj, _, _, rfl, hJ.hj, T.clJ, T.nMarks, joinF_marks J _, J.pm, _, _, _, rfl, rfl, SqL.of hJ.hm, ix_side (fun b => nv (m.mark b)) false, ?_⟩
    refine ⟨_, rfl, J.j, A.CJ, J.dj, _, _, rfl, hJ.hj, T.clJ, T.nMarks, joinF_marks J _, J.pm, _, _, _, rfl, rfl, SqL.of hJ.hm, ix_side (fun b => nv (m.mark b)) true, ?_⟩
    refine ⟨by show 5 ≤ sizeLine; decide, fun p hp => ?_⟩
    have s1 := same_upd (o := .lst [nv (m.taken false), nv (m.taken true), nv m.aside, nv (m.mark false), nv (m.mark true)]) hp
    exact q _ J p rfl (Kp.of s1) (hJ.same s1) (fun b f => .inl f) (.inr hp) upd_same
  · obtain ⟨J, m, rfl, _⟩ := h
    rfl
theorem scAt : FnScope ["self", "key", "time", "version"] ["self", "key", "time"] (defScope (sJoin 12)) := ⟨rfl, rfl, rfl, by decide +kernel, rfl, by decide +kernel, by decide +kernel⟩
theorem ok_at (T : Txt K mg A) : Met P w K mg base (L2.CX P w) 9 A.CJ "at" (spAt A) := by
  refine metX (k := 8) T.clJ T.mAt (fun _ _ _ _ _ _ us hl => match us, hl with | [_, _, _], _ => rfl) scAt (fun vs H Q E h => ?_) (fun f cdv Ar outer s H vs Q E hr h => ?_)
  rotate_left
  · refine ⟨_, pss_cons (ps_expr (pe_c (ok_ask T) hr (by decide) passE (by rfl) (pa_cons (pe_mt0 (ok_isMoment T) hr (by decide) pass0 (pe_fld (pv 0) rfl)) (pa_cons (pe_ic T.OTHER_SORT rfl) pa_nil))))
      (pss_cons (ps_expr (pe_c (ok_ask T) hr (by decide) passE (by rfl) (pa_cons (pe_cmpR op_le (pv 2) (pe_ic T.MOST_TIME rfl) (nomark _)) (pa_cons (pe_ic T.BEYOND rfl) pa_nil))))
      (pss_cons (ps_expr (pe_c (ok_ask T) hr (by decide) passE (by rfl) (pa_cons (pe_cmpR op_ge (pv 2) (pe_ix ix_list (pe_fld (pv 0) rfl) (pe_ic T.LEFT rfl) (fun _ _ => rfl)) (nomark _)) (pa_cons (pe_ic T.GONE_BY rfl) pa_nil))))
      (pss_cons (ps_set (i := 3) scAt.nd rfl (.inl rfl) (pe_c (ok_holding T) hr (by decide) pass0 (by rfl) (pa_cons (pe_fld (pv 0) rfl) (pa_cons (pv 1) (pa_cons (pv 2) pa_nil)))))
      (pss_cons (ps_if (pt_cmpR op_isN (pv 3) pe_non (nomark _)) (pss_one (ps_ret (pe_lst (pa_cons pe_int pa_nil)))) pss_nil)
      (pss_one (ps_ret (pe_lst (pa_cons (pe_fld (pv 3) rfl) (pa_cons (pe_fld (pv 3) rfl) pa_nil))))))))), ?_⟩
    obtain ⟨J, m, key, t, rfl, hJ, hx⟩ := h
    obtain ⟨dt, htt⟩ := hJ.ht
    refine ⟨_, rfl, J.j, A.CJ, J.dj, _, _, rfl, hJ.hj, T.clJ, T.nTerms, joinF_terms J _, J.t, dt, _, rfl, htt, termF_no m (by decide +kernel) (by decide +kernel) (by decide +kernel) (by decide +kernel), J.t, _, rfl, ⟨dt, htt⟩, _, _, rfl, fun c1 => ?_, fun c1 => hx.err _ (if_pos (of_decide_eq_false c1))⟩
    have k3 : ¬ m.kind ≠ 3 := fun z => z (of_decide_eq_true c1)
    refine ⟨_, rfl, _, _, rfl, rfl, _, _, rfl, fun c2 => ?_, fun c2 => hx.err _ ((if_neg k3).trans (if_pos (by rw [decide_eq_false_iff_not] at c2; omega)))⟩
    rw [decide_eq_true_eq] at c2
    have n2 : ¬ 1000000 < t := by omega
    refine ⟨_, rfl, _, rfl, J.j, A.CJ, J.dj, _, _, rfl, hJ.hj, T.clJ, T.nMarks, joinF_marks J _, J.pm, _, _, _, rfl, rfl, SqL.of hJ.hm, ix_side (fun b => nv (m.mark b)) false, _, _, rfl, rfl, _, _, rfl, fun c3 => ?_, fun c3 => hx.err _ ((if_neg k3).trans ((if_neg n2).trans (if_pos (by rw [decide_eq_false_iff_not] at c3; omega))))⟩
    rw [decide_eq_true_eq] at c3
    have n3 : ¬ t < m.mark false := by omega
    have q := hx.ok _ ((if_neg k3).trans ((if_neg n2).trans (if_neg n3)))
    refine ⟨_, rfl, J.j, A.CJ, J.dj, _, _, rfl, hJ.hj, T.clJ, T.nVersions, joinF_versions J _, _, rfl, _, rfl, J.pv, J.va, m.vers, key, t, rfl, hJ.hv, hJ.hw, fun H1 v k1 hv => ?_⟩
    rcases hv with ⟨e, rfl⟩ | ⟨b, y, e, rfl, ⟨db, hb⟩⟩
    · rw [e] at q
      refine ⟨_, rfl, rfl, _, rfl, iteT ⟨by show 1 ≤ sizeLine; decide, fun p hp => ?_⟩⟩
      have s1 := k1.trans (same_upd (o := .lst [.int 0]) hp)
      exact q _ J p rfl (Kp.of s1) (hJ.same s1) (fun b f => .inl f) (.inr (k1.free hp)) upd_same
    · rw [e] at q
      refine ⟨_, rfl, rfl, _, rfl, iteF ⟨_, rfl, b, A.CR, db, _, _, rfl, hb, T.clR, T.nNumber, rowF_number y, _, rfl, b, A.CR, db, _, _, rfl, hb, T.clR, T.nTime, rowF_time y, (by show 2 ≤ sizeLine; decide), fun p hp => ?_⟩⟩
      have s1 := k1.trans (same_upd (o := .lst [nv y.id, nv y.t]) hp)
      exact q _ J p rfl (Kp.of s1) (hJ.same s1) (fun b f => .inl f) (.inr (k1.free hp)) upd_same
  · obtain ⟨J, m, key, t, rfl, _⟩ := h
    rfl
theorem scTold : FnScope ["join", "call"] ["join", "call"] (defScope sToldBy) := ⟨rfl, rfl, rfl, by decide +kernel, rfl, by decide +kernel, by decide +kernel⟩
theorem ok_told (T : Txt K mg A) : Cal P w K mg base (L2.CX P w) 18 "told_by" (spTold A) := by
  refine calX (k := 17) T.dToldBy (fun _ _ _ _ _ _ us hl => match us, hl with | [_, _], _ => rfl) scTold (fun vs H Q E h => ?_) (fun f cdv Ar outer s H vs Q E hr h => ?_)
  rotate_left
  · refine ⟨_, (pss_cons (ps_if (pt_cmpR op_eq (pe_ix ix_list (pv 1) pe_int (fun _ _ => rfl)) pe_int (nomark _)) (pss_one (ps_ret (pe_mt (ok_come T) hr (by decide) passE (pv 0) (pa_cons (pe_ic T.LEFT rfl) (pa_cons (pe_ix ix_list (pv 1) pe_int (fun _ _ => rfl)) (pa_cons (pe_ix ix_list (pv 1) pe_int (fun _ _ => rfl)) pa_nil)))))) pss_nil)
      (pss_cons (ps_if (pt_cmpR op_eq (pe_ix ix_list (pv 1) pe_int (fun _ _ => rfl)) pe_int (nomark _)) (pss_one (ps_ret (pe_mt (ok_come T) hr (by decide) passE (pv 0) (pa_cons (pe_ic T.RIGHT rfl) (pa_cons (pe_ix ix_list (pv 1) pe_int (fun _ _ => rfl)) (pa_cons (pe_ix ix_list (pv 1) pe_int (fun _ _ => rfl)) pa_nil)))))) pss_nil)
      (pss_cons (ps_if (pt_cmpR op_eq (pe_ix ix_list (pv 1) pe_int (fun _ _ => rfl)) pe_int (nomark _)) (pss_one (ps_ret (pe_mt (ok_raise T) hr (by decide) passE (pv 0) (pa_cons (pe_ic T.LEFT rfl) (pa_cons (pe_ix ix_list (pv 1) pe_int (fun _ _ => rfl)) pa_nil))))) pss_nil)
      (pss_cons (ps_if (pt_cmpR op_eq (pe_ix ix_list (pv 1) pe_int (fun _ _ => rfl)) pe_int (nomark _)) (pss_one (ps_ret (pe_mt (ok_raise T) hr (by decide) passE (pv 0) (pa_cons (pe_ic T.RIGHT rfl) (pa_cons (pe_ix ix_list (pv 1) pe_int (fun _ _ => rfl)) pa_nil))))) pss_nil)
      (pss_cons (ps_if (pt_cmpR op_eq (pe_ix ix_list (pv 1) pe_int (fun _ _ => rfl)) pe_int (nomark _)) (pss_one (ps_ret (pe_mt (ok_show T) hr (by decide) pass0 (pv 0) (pa_cons (pe_ic T.LEFT rfl) pa_nil)))) pss_nil)
      (pss_cons (ps_if (pt_cmpR op_eq (pe_ix ix_list (pv 1) pe_int (fun _ _ => rfl)) pe_int (nomark _)) (pss_one (ps_ret (pe_mt (ok_show T) hr (by decide) pass0 (pv 0) (pa_cons (pe_ic T.RIGHT rfl) pa_nil)))) pss_nil)
      (pss_cons (ps_if (pt_cmpR op_eq (pe_ix ix_list (pv 1) pe_int (fun _ _ => rfl)) pe_int (nomark _)) (pss_one (ps_ret (pe_mt0 (ok_counts T) hr (by decide) pass0 (pv 0)))) pss_nil)
      (pss_one (ps_ret (pe_mt (ok_at T) hr (by decide) passE (pv 0) (pa_cons (pe_ix ix_list (pv 1) pe_int (fun _ _ => rfl)) (pa_cons (pe_ix ix_list (pv 1) pe_int (fun _ _ => rfl)) pa_nil)))))))))))), ?_⟩
    obtain ⟨J, m, q, c, rfl, hJ, hz, hq, hc, hx⟩ := h
    have noJ : ∀ {y : Str}, (y == ("terms" : Str)) = false → (y == ("marks" : Str)) = false → (y == ("taken" : Str)) = false → (y == ("kept" : Str)) = false → (y == ("aside" : Str)) = false → (y == ("versions" : Str)) = false → (joinF J m.aside).lookup y = none := fun a b c d e f => joinF_no J _ a b c d e f
    cases c with
    | begin_ k a b e => exact absurd rfl hc
    | left k t =>
      exact ⟨_, rfl, q, _, _, _, rfl, rfl, SqL.of hq, at_of (j := 0) rfl rfl, rfl, _, rfl, iteT ⟨_, rfl, J.j, J.dj, _, rfl, hJ.hj, noJ (by decide +kernel) (by decide +kernel) (by decide +kernel) (by decide +kernel) (by decide +kernel) (by decide +kernel), _, rfl, q, _, _, _, rfl, rfl, SqL.of hq, at_of (j := 1) rfl rfl, _, rfl, q, _, _, _, rfl, rfl, SqL.of hq, at_of (j := 2) rfl rfl, J, m, false, k, t, rfl, hJ, hz, fun z => hx.err _ (if_pos z), fun z => hx.ok _ (if_neg z)⟩⟩
    | right k t =>
      exact ⟨_, rfl, q, _, _, _, rfl, rfl, SqL.of hq, at_of (j := 0) rfl rfl, rfl, _, rfl, iteF ⟨_, rfl, q, _, _, _, rfl, rfl, SqL.of hq, at_of (j := 0) rfl rfl, rfl, _, rfl, iteT ⟨_, rfl, J.j, J.dj, _, rfl, hJ.hj, noJ (by decide +kernel) (by decide +kernel) (by decide +kernel) (by decide +kernel) (by decide +kernel) (by decide +kernel), _, rfl, q, _, _, _, rfl, rfl, SqL.of hq, at_of (j := 1) rfl rfl, _, rfl, q, _, _, _, rfl, rfl, SqL.of hq, at_of (j := 2) rfl rfl, J, m, true, k, t, rfl, hJ, hz, fun z => hx.err _ (if_pos z), fun z => hx.ok _ (if_neg z)⟩⟩⟩
    | markL t =>
      exact ⟨_, rfl, q, _, _, _, rfl, rfl, SqL.of hq, at_of (j := 0) rfl rfl, rfl, _, rfl, iteF ⟨_, rfl, q, _, _, _, rfl, rfl, SqL.of hq, at_of (j := 0) rfl rfl, rfl, _, rfl, iteF ⟨_, rfl, q, _, _, _, rfl, rfl, SqL.of hq, at_of (j := 0) rfl rfl, rfl, _, rfl, iteT ⟨_, rfl, J.j, J.dj, _, rfl, hJ.hj, noJ (by decide +kernel) (by decide +kernel) (by decide +kernel) (by decide +kernel) (by decide +kernel) (by decide +kernel), _, rfl, q, _, _, _, rfl, rfl, SqL.of hq, at_of (j := 1) rfl rfl, J, m, false, t, rfl, hJ, hz, fun z => hx.err _ (if_pos z), fun z y => hx.err _ ((if_neg z).trans (if_pos y)), fun z y => hx.ok _ ((if_neg z).trans (if_neg y))⟩⟩⟩⟩
    | markR t =>
      exact ⟨_, rfl, q, _, _, _, rfl, rfl, SqL.of hq, at_of (j := 0) rfl rfl, rfl, _, rfl, iteF ⟨_, rfl, q, _, _, _, rfl, rfl, SqL.of hq, at_of (j := 0) rfl rfl, rfl, _, rfl, iteF ⟨_, rfl, q, _, _, _, rfl, rfl, SqL.of hq, at_of (j := 0) rfl rfl, rfl, _, rfl, iteF ⟨_, rfl, q, _, _, _, rfl, rfl, SqL.of hq, at_of (j := 0) rfl rfl, rfl, _, rfl, iteT ⟨_, rfl, J.j, J.dj, _, rfl, hJ.hj, noJ (by decide +kernel) (by decide +kernel) (by decide +kernel) (by decide +kernel) (by decide +kernel) (by decide +kernel), _, rfl, q, _, _, _, rfl, rfl, SqL.of hq, at_of (j := 1) rfl rfl, J, m, true, t, rfl, hJ, hz, fun z => hx.err _ (if_pos z), fun z y => hx.err _ ((if_neg z).trans (if_pos y)), fun z y => hx.ok _ ((if_neg z).trans (if_neg y))⟩⟩⟩⟩⟩
    | lefts =>
      exact ⟨_, rfl, q, _, _, _, rfl, rfl, SqL.of hq, at_of (j := 0) rfl rfl, rfl, _, rfl, iteF ⟨_, rfl, q, _, _, _, rfl, rfl, SqL.of hq, at_of (j := 0) rfl rfl, rfl, _, rfl, iteF ⟨_, rfl, q, _, _, _, rfl, rfl, SqL.of hq, at_of (j := 0) rfl rfl, rfl, _, rfl, iteF ⟨_, rfl, q, _, _, _, rfl, rfl, SqL.of hq, at_of (j := 0) rfl rfl, rfl, _, rfl, iteF ⟨_, rfl, q, _, _, _, rfl, rfl, SqL.of hq, at_of (j := 0) rfl rfl, rfl, _, rfl, iteT ⟨_, rfl, J.j, J.dj, _, rfl, hJ.hj, noJ (by decide +kernel) (by decide +kernel) (by decide +kernel) (by decide +kernel) (by decide +kernel) (by decide +kernel), J, m, false, rfl, hJ, hz, hx.ok _ rfl⟩⟩⟩⟩⟩⟩
    | rights =>
      exact ⟨_, rfl, q, _, _, _, rfl, rfl, SqL.of hq, at_of (j := 0) rfl rfl, rfl, _, rfl, iteF ⟨_, rfl, q, _, _, _, rfl, rfl, SqL.of hq, at_of (j := 0) rfl rfl, rfl, _, rfl, iteF ⟨_, rfl, q, _, _, _, rfl, rfl, SqL.of hq, at_of (j := 0) rfl rfl, rfl, _, rfl, iteF ⟨_, rfl, q, _, _, _, rfl, rfl, SqL.of hq, at_of (j := 0) rfl rfl, rfl, _, rfl, iteF ⟨_, rfl, q, _, _, _, rfl, rfl, SqL.of hq, at_of (j := 0) rfl rfl, rfl, _, rfl, iteF ⟨_, rfl, q, _, _, _, rfl, rfl, SqL.of hq, at_of (j := 0) rfl rfl, rfl, _, rfl, iteT ⟨_, rfl, J.j, J.dj, _, rfl, hJ.hj, noJ (by decide +kernel) (by decide +kernel) (by decide +kernel) (by decide +kernel) (by decide +kernel) (by decide +kernel), J, m, true, rfl, hJ, hz, hx.ok _ rfl⟩⟩⟩⟩⟩⟩⟩
    | counts =>
      exact ⟨_, rfl, q, _, _, _, rfl, rfl, SqL.of hq, at_of (j := 0) rfl rfl, rfl, _, rfl, iteF ⟨_, rfl, q, _, _, _, rfl, rfl, SqL.of hq, at_of (j := 0) rfl rfl, rfl, _, rfl, iteF ⟨_, rfl, q, _, _, _, rfl, rfl, SqL.of hq, at_of (j := 0) rfl rfl, rfl, _, rfl, iteF ⟨_, rfl, q, _, _, _, rfl, rfl, SqL.of hq, at_of (j := 0) rfl rfl, rfl, _, rfl, iteF ⟨_, rfl, q, _, _, _, rfl, rfl, SqL.of hq, at_of (j := 0) rfl rfl, rfl, _, rfl, iteF ⟨_, rfl, q, _, _, _, rfl, rfl, SqL.of hq, at_of (j := 0) rfl rfl, rfl, _, rfl, iteF ⟨_, rfl, q, _, _, _, rfl, rfl, SqL.of hq, at_of (j := 0) rfl rfl, rfl, _, rfl, iteT ⟨_, rfl, J.j, J.dj, _, rfl, hJ.hj, noJ (by decide +kernel) (by decide +kernel) (by decide +kernel) (by decide +kernel) (by decide +kernel) (by decide +kernel), J, m, rfl, hJ, hx.ok _ rfl⟩⟩⟩⟩⟩⟩⟩⟩
    | at_ k t =>
      exact ⟨_, rfl, q, _, _, _, rfl, rfl, SqL.of hq, at_of (j := 0) rfl rfl, rfl, _, rfl, iteF ⟨_, rfl, q, _, _, _, rfl, rfl, SqL.of hq, at_of (j := 0) rfl rfl, rfl, _, rfl, iteF ⟨_, rfl, q, _, _, _, rfl, rfl, SqL.of hq, at_of (j := 0) rfl rfl, rfl, _, rfl, iteF ⟨_, rfl, q, _, _, _, rfl, rfl, SqL.of hq, at_of (j := 0) rfl rfl, rfl, _, rfl, iteF ⟨_, rfl, q, _, _, _, rfl, rfl, SqL.of hq, at_of (j := 0) rfl rfl, rfl, _, rfl, iteF ⟨_, rfl, q, _, _, _, rfl, rfl, SqL.of hq, at_of (j := 0) rfl rfl, rfl, _, rfl, iteF ⟨_, rfl, q, _, _, _, rfl, rfl, SqL.of hq, at_of (j := 0) rfl rfl, rfl, _, rfl, iteF ⟨_, rfl, J.j, J.dj, _, rfl, hJ.hj, noJ (by decide +kernel) (by decide +kernel) (by decide +kernel) (by decide +kernel) (by decide +kernel) (by decide +kernel), _, rfl, q, _, _, _, rfl, rfl, SqL.of hq, at_of (j := 1) rfl rfl, _, rfl, q, _, _, _, rfl, rfl, SqL.of hq, at_of (j := 2) rfl rfl, J, m, k, t, rfl, hJ, hx⟩⟩⟩⟩⟩⟩⟩⟩
  · obtain ⟨J, m, q, c, rfl, _⟩ := h
    rfl
end
end JW
/-! ### the calls are read -/
namespace JW
open PySem PySem.Spec PyProof.Rows L2
open JM (M)
def CallsAt (H : Hp) (as : List Addr) (xs : List Hs06.Call) : Prop := as.length = xs.length ∧ ∀ (i : Nat) (a : Addr) (c : Hs06.Call), as[i]? = some a → xs[i]? = some c → H a = some (.lst ((JM.enc c).map V.int))
theorem CallsAt.at {H H' : Hp} {as : List Addr} {xs : List Hs06.Call} (h : CallsAt H as xs) (k : ∀ a ∈ as, ∀ o, H a = some o → H' a = some o) : CallsAt H' as xs := ⟨h.1, fun i a c e1 e2 => k a (List.mem_of_getElem? e1) _ (h.2 i a c e1 e2)⟩
theorem CallsAt.same {H H' : Hp} {as : List Addr} {xs : List Hs06.Call} (h : CallsAt H as xs) (k : Same H H') : CallsAt H' as xs := h.at fun a _ o => k a o
theorem CallsAt.snoc {H : Hp} {as : List Addr} {xs : List Hs06.Call} {a : Addr} {c : Hs06.Call} (h : CallsAt H as xs) (q : H a = some (.lst ((JM.enc c).map V.int))) : CallsAt H (as ++ [a]) (xs ++ [c]) := by
  refine ⟨by rw [List.length_append, List.length_append, h.1] <;> rfl, fun i b x e1 e2 => ?_⟩
  by_cases hi : i < as.length
  · rw [List.getElem?_append_left hi] at e1
    rw [List.getElem?_append_left (by rw [← h.1]; exact hi)] at e2
    exact h.2 i b x e1 e2
  · rw [List.getElem?_append_right (by omega)] at e1
    rw [List.getElem?_append_right (by rw [← h.1]; omega)] at e2
    rw [← h.1] at e2
    cases q2 : i - as.length with
    | zero =>
      rw [q2] at e1 e2
      have z1 : a = b := by simpa using e1
      have z2 : c = x := by simpa using e2
      subst z1 z2
      exact q
    | succ n =>
      rw [q2] at e1
      simp at e1
/-- where the k-th call begins -/
def off (xs : List Hs06.Call) (k : Nat) : Nat := ((xs.take k).map JM.enc).flatten.length
def flat (xs : List Hs06.Call) : List Int := (xs.map JM.enc).flatten
theorem off_next {xs : List Hs06.Call} {k : Nat} {c : Hs06.Call} (h : xs[k]? = some c) : off xs (k + 1) = off xs k + (JM.enc c).length := by
  unfold off
  rw [take_more h, List.map_append, List.flatten_append, List.length_append]
  simp
theorem flat_split {xs : List Hs06.Call} {k : Nat} {c : Hs06.Call} (h : xs[k]? = some c) : ∃ z, flat xs = ((xs.take k).map JM.enc).flatten ++ (JM.enc c ++ z) := by
  have hk := (List.getElem?_eq_some_iff.mp h)
  have e : xs = xs.take k ++ c :: xs.drop (k + 1) := by
    obtain ⟨hk, hc⟩ := hk
    rw [← hc, ← List.drop_eq_getElem_cons hk, List.take_append_drop]
  refine ⟨((xs.drop (k + 1)).map JM.enc).flatten, ?_⟩
  unfold flat
  conv => lhs; rw [e]
  rw [List.map_append, List.flatten_append, List.map_cons, List.flatten_cons]
theorem enc_pos (c : Hs06.Call) : 1 ≤ (JM.enc c).length ∧ (JM.enc c).length ≤ 5 := by cases c <;> exact ⟨by simp [JM.enc], by simp [JM.enc]⟩
theorem off_le (xs : List Hs06.Call) : ∀ k, off xs k ≤ 5 * k := fun k => by
  have z : ∀ l : List Hs06.Call, (l.map JM.enc).flatten.length ≤ 5 * l.length := fun l => by
    induction l with
    | nil => simp
    | cons x l ih =>
      rw [List.map_cons, List.flatten_cons, List.length_append, List.length_cons]
      have := (enc_pos x).2
      omega
  have a := z (xs.take k)
  rw [List.length_take] at a
  unfold off
  omega
theorem flat_at {xs : List Hs06.Call} {k : Nat} {c : Hs06.Call} (h : xs[k]? = some c) : (flat xs)[off xs k]? = some (JM.code c : Int) := by
  obtain ⟨z, e⟩ := flat_split h
  rw [e]
  unfold off
  rw [List.getElem?_append_right (Nat.le_refl _), Nat.sub_self, List.getElem?_append_left (enc_pos c).1]
  exact JM.enc_head c
theorem off_lt {xs : List Hs06.Call} {k : Nat} {c : Hs06.Call} (h : xs[k]? = some c) : off xs (k + 1) ≤ (flat xs).length := by
  obtain ⟨z, e⟩ := flat_split h
  rw [e, off_next h]
  unfold off
  rw [List.length_append, List.length_append]
  omega
theorem off_end (xs : List Hs06.Call) : off xs xs.length = (flat xs).length := by
  unfold off flat
  rw [List.take_length]
theorem cut_enc {xs : List Hs06.Call} {k : Nat} {c : Hs06.Call} (h : xs[k]? = some c) : cutV ((flat xs).map V.int) (some (off xs k : Nat)) (some (off xs (k + 1) : Nat)) = (JM.enc c).map V.int := by
  obtain ⟨z, e⟩ := flat_split h
  have l1 := off_lt h
  have l2 := off_next h
  unfold cutV
  rw [HT.sIx_nat, HT.sIx_nat, List.length_map, Nat.min_eq_left l1, Nat.min_eq_left (by omega), ← List.map_drop, ← List.map_take]
  refine congrArg _ ?_
  have e2 : (flat xs).drop (off xs k) = JM.enc c ++ z := by
    rw [e]
    unfold off
    rw [List.drop_append_of_le_length (Nat.le_refl _), List.drop_length, List.nil_append]
  rw [e2, l2, Nat.add_sub_cancel_left, List.take_append_of_le_length (Nat.le_refl _), List.take_length]
theorem bel_at (c : Hs06.Call) : ([.int 4, .int 2, .int 2, .int 1, .int 1, .int 0, .int 0, .int 0, .int 2] : List V)[JM.code c]? = some (nv (JM.belong (JM.code c))) := by cases c <;> rfl
theorem sql_same {K : PySem.W.Frag} {H H' : Hp} {a : Addr} {xs : List V} (h : SqL K H a xs) (e : Same H H') : SqL K H' a xs :=
  h.elim (fun h => .inl (h.elim (fun h => .inl (e _ _ h)) fun ⟨o, h⟩ => .inr ⟨o, e _ _ h⟩)) fun h => .inr h
def spRead (K : PySem.W.Frag) : Sp := fun vs H Q _ => ∃ (p : Addr) (xs : List Hs06.Call), vs = [.ref p] ∧ SqL K H p ((flat xs).map V.int) ∧ xs.length ≤ 60 ∧
  ∀ (H' : Hp) (q : Addr) (as : List Addr), Same H H' → H q = none → (∀ a ∈ as, H a = none) → H' q = some (.lst (refs as)) → CallsAt H' as xs → Q (.ref q) H'
section
variable {P : Program} {w : World} {K : PySem.W.Frag} {mg : Str → Option Value} {base : Heap} {A : Adr}
theorem scRead : FnScope ["row", "found", "at", "behind"] ["row"] (defScope sRead) := ⟨rfl, rfl, rfl, by decide +kernel, rfl, by decide +kernel, by decide +kernel⟩
theorem ok_read (T : Txt K mg A) : Cal P w K mg base CX0 3 "read_calls" (spRead K) := by
  refine cal0 (k := 2) T.dRead (fun _ _ _ _ _ _ us hl => match us, hl with | [_], _ => rfl) scRead (fun vs H Q E h => ?_) (fun f cdv Ar outer s H vs Q E hr h => ?_)
  rotate_left
  · obtain ⟨bb, hm, hs⟩ := T.bel
    refine ⟨_, pss_cons (ps_set (i := 1) scRead.nd rfl (.inl rfl) (pe_lst pa_nil)) (pss_cons (ps_set (i := 2) scRead.nd rfl (.inl rfl) pe_int)
      (pss_cons (ps_while PassesOwn.never (pt_cmpR op_lt (pv 2) (pe_callB call_len_seq (by rfl) T.bLen PySem.boot_len (pa_cons (pv 0) pa_nil)) (nomark _))
        (pss_cons (ps_set (i := 3) scRead.nd rfl (.inl rfl) (pe_op op_add (pe_op op_add (pv 2) pe_int) (pe_ix ix_tup (pe_glob (v := .ref bb) rfl hm rfl) (pe_ix ix_list (pv 0) (pv 2) (fun _ _ => rfl)) (fun _ _ => rfl))))
        (pss_cons (ps_expr (pe_bm PySem.F.plainAttrs_list PySem.F.slot_list_append PySem.F.type_list_append mt_append (pv 1) (pa_cons (pe_slice sl_list (pv 0) (po_some (pv 2)) (po_some (pv 3))) pa_nil)))
        (pss_one (ps_set (i := 2) scRead.nd rfl (.inl rfl) (pv 3))))))
      (pss_one (ps_ret (pv 1))))), ?_⟩
    obtain ⟨p, xs, rfl, hp, hn, q⟩ := h
    refine ⟨by show 0 ≤ sizeLine; decide, fun l hl => ?_⟩
    refine ⟨fun m σ H' => ∃ (k : Nat) (as : List Addr) (v3 : Option V), k ≤ xs.length ∧ m = xs.length - k ∧ σ = [some (.ref p), some (.ref l), some (nv (off xs k)), v3] ∧ Same H H' ∧ H' l = some (.lst (refs as)) ∧ (∀ a ∈ as, H a = none ∧ a ≠ l) ∧ CallsAt H' as (xs.take k),
      ⟨xs.length, 0, [], none, Nat.zero_le _, rfl, rfl, same_upd hl, upd_same, fun a h => (by cases h), ⟨rfl, fun i a r e => by simp at e⟩⟩, ?_⟩
    rintro m σ H' ⟨k, as, v3, hk, rfl, rfl, kp, hl', hfr, hc⟩
    refine ⟨_, rfl, _, rfl, p, (flat xs).map V.int, rfl, .inl (sql_same hp kp), _, _, rfl, rfl, _, rfl, ?_⟩
    by_cases c : k < xs.length
    · have ek : xs[k]? = some xs[k] := List.getElem?_eq_getElem c
      generalize xs[k] = call at ek
      have l1 := off_lt ek
      have l2 := off_next ek
      have l3 := enc_pos call
      have z : decide ((off xs k : Int) < (((flat xs).map V.int).length : Int)) = true := by
        rw [List.length_map]
        exact decide_eq_true (by omega)
      show if decide ((off xs k : Int) < (((flat xs).map V.int).length : Int)) = true then _ else _
      rw [z]
      refine iteT ⟨fun σ' H2 => ∃ (as : List Addr) (v3 : Option V), σ' = [some (.ref p), some (.ref l), some (nv (off xs (k + 1))), v3] ∧ Same H H2 ∧ H2 l = some (.lst (refs as)) ∧ (∀ a ∈ as, H a = none ∧ a ≠ l) ∧ CallsAt H2 as (xs.take (k + 1)),
        fun σ' H2 ⟨as, v3, e, h1, h2, h3, h4⟩ => ⟨xs.length - (k + 1), by omega, k + 1, as, v3, c, rfl, e, h1, h2, h3, h4⟩, ?_⟩
      have ha : (((flat xs).map V.int))[off xs k]? = some (.int (JM.code call : Nat)) := by
        rw [List.getElem?_map, flat_at ek]
        rfl
      refine ⟨_, rfl, _, _, rfl, rfl, _, rfl, _, rfl, p, _, _, _, rfl, rfl, sql_same hp kp, at_of (j := off xs k) rfl ha, bb, _, _, _, rfl, rfl, hs H', at_of (j := JM.code call) rfl (bel_at call), _, _, rfl, rfl, ?_⟩
      have eb : ((off xs k : Nat) : Int) + 1 + ((JM.belong (JM.code call) : Nat) : Int) = ((off xs (k + 1) : Nat) : Int) := by
        rw [l2, JM.enc_len]
        omega
      dsimp only
      rw [eb]
      refine ⟨_, rfl, .inl ⟨rfl, _, SqL.of hl'⟩, _, rfl, _, rfl, _, rfl, _, rfl, _, rfl, p, _, rfl, sql_same hp kp, fun n hn' => ?_⟩
      have n0 : H n = none := kp.free hn'
      have ec := cut_enc ek
      rw [ec]
      have s1 := same_upd (o := .lst ((JM.enc call).map V.int)) hn'
      have ln : l ≠ n := ne_of_none hl' hn'
      refine ⟨l, _, _, rfl, rfl, at_new hl' hn', ?_, ?_⟩
      · refine line_lt' ?_
        unfold refs
        rw [List.length_map, hc.1, List.length_take]
        omega
      refine ⟨_, rfl, as ++ [n], _, rfl, fun b o e => ?_, ?_, ?_, ?_⟩
      · exact at_ne (s1 _ _ (kp b o e)) (ne_of_none e hl)
      · rw [upd_same, refs_snoc]
      · intro a ha
        rcases List.mem_append.mp ha with ha | ha
        · exact hfr a ha
        · rw [List.mem_singleton.mp ha]
          exact ⟨n0, ln.symm⟩
      · rw [take_more ek]
        have nl : ∀ a ∈ as, a ≠ l := fun a ha => (hfr a ha).2
        exact ((hc.same s1).at fun a ha o e => at_ne e (nl a ha)).snoc (at_ne upd_same ln.symm)
    · have ek : k = xs.length := by omega
      subst ek
      have z : decide ((off xs xs.length : Int) < (((flat xs).map V.int).length : Int)) = false := by
        rw [List.length_map, off_end]
        exact decide_eq_false (by omega)
      show if decide ((off xs xs.length : Int) < (((flat xs).map V.int).length : Int)) = true then _ else _
      rw [z]
      rw [List.take_length] at hc
      exact iteF ⟨_, rfl, q H' l as kp hl (fun a ha => (hfr a ha).1) hl' hc⟩
  · obtain ⟨p, xs, rfl, _⟩ := h
    rfl
end
end JW
/-! ### the line -/
namespace JW
open PySem PySem.Spec PyProof.Rows L2
open JM (M)
theorem passX {X : Cx} : Passes (L2.CX X.prog X.w) X E0 := fun _ _ _ _ _ _ _ h => by
  obtain ⟨_, _, _, _, _, _, _, _, _, _, _, _, z⟩ := h
  exact z.elim
theorem takesX {X : Cx} : Takes X (fun _ _ _ _ => False) := fun _ _ x => by
  obtain ⟨_, _, _, _, _, _, _, _, _, _, _, _, _, _, _, _, z⟩ := x
  exact z.elim
def lineF (J : JA) : List (Str × V) := [("join", .ref J.j)]
structure LineAt (A : Adr) (H : Hp) (l : Addr) (J : JA) (m : M) : Prop where
  li : ∃ dx, H l = some (.ins A.CL dx (lineF J))
  jo : JoinAt A H J m
section
variable {A : Adr} {H H' : Hp} {l : Addr} {J : JA} {m : M}
/-- a line is no part of a join -/
theorem line_not {C dx : Addr} {v : V} (e : H l = some (.ins C dx [("join", v)])) (h : JoinAt A H J m) : ¬ Ft J l := fun f => by
  rcases h.kinds f with ⟨xs, e2⟩ | ⟨C', dx', fs, e2, n⟩
  · rw [e] at e2
    cases e2
  · rw [e] at e2
    injection e2 with e2
    injection e2 with _ _ e3
    rw [← e3, lk_here] at n
    cases n
theorem LineAt.nf (h : LineAt A H l J m) : ¬ Ft J l := let ⟨_, e⟩ := h.li; line_not e h.jo
theorem LineAt.same (h : LineAt A H l J m) (k : Same H H') : LineAt A H' l J m := ⟨let ⟨dx, e⟩ := h.li; ⟨dx, k _ _ e⟩, h.jo.same k⟩
/-- what is written elsewhere -/
theorem LineAt.upd {p : Addr} {o : HO} (h : LineAt A H l J m) (n1 : l ≠ p) (n2 : ¬ Ft J p) : LineAt A (L2.upd H p o) l J m :=
  ⟨let ⟨dx, e⟩ := h.li; ⟨dx, at_ne e n1⟩, h.jo.at fun b f o e => at_ne e fun z => n2 (z ▸ f)⟩
end
def PostL (A : Adr) (H : Hp) (l : Addr) (J : JA) (x : M × List Int) (Q : VK) : Prop := ∀ (H' : Hp) (J' : JA) (p : Addr), LineAt A H' l J' x.1 → Kp (fun b => b = l ∨ Ft J b) H H' → (∀ b, Ft J' b → Ft J b ∨ H b = none) → (Ft J p ∨ H p = none) →
  H' p = some (.lst (x.2.map V.int)) → Q (.ref p) H'
def spLineI (A : Adr) : Sp := fun vs H Q _ => ∃ p dx : Addr, vs = [.ref p] ∧ H p = some (.ins A.CL dx []) ∧ ∀ (H' : Hp) (J : JA), Kp (fun b => b = p) H H' → LineAt A H' p J (JM.new 0 10 10 false) → Q .non H'
def spAnswer (A : Adr) : Sp := fun vs H Q E => ∃ (l : Addr) (J : JA) (m : M) (q : Addr) (c : Hs06.Call), vs = [.ref l, .ref q] ∧ LineAt A H l J m ∧ JM.Sz 1000 m ∧ H q = some (.lst ((JM.enc c).map V.int)) ∧ (∀ n, m.exec c = .error n → Rais A H E n) ∧ (∀ x, m.exec c = .ok x → PostL A H l J x Q)
def spAll (A : Adr) : Sp := fun vs H Q _ => ∃ (l : Addr) (J : JA) (m : M) (q : Addr) (c : Hs06.Call), vs = [.ref l, .ref q] ∧ LineAt A H l J m ∧ JM.Sz 1000 m ∧ H q = some (.lst ((JM.enc c).map V.int)) ∧ PostL A H l J (m.step c) Q
section
variable {P : Program} {w : World} {K : PySem.W.Frag} {mg : Str → Option Value} {base : Heap} {A : Adr}
theorem scLineI : FnScope ["self"] ["self"] (defScope (sLine 0)) := ⟨rfl, rfl, rfl, by decide +kernel, rfl, by decide +kernel, by decide +kernel⟩
theorem ok_lineI (T : Txt K mg A) : Mak P w K mg base CX0 12 "Line" A.CL (spLineI A) := by
  refine mak0 (k := 11) T.iLine (fun _ _ _ _ _ _ us hl => match us, hl with | [_], _ => rfl) scLineI (fun vs H Q E h => ?_) (fun f cdv Ar outer s H vs Q E hr h => ?_)
  rotate_left
  · refine ⟨_, pss_one (ps_fld (pv 0) (pe_mk (ok_joinI T) hr (by decide) pass0 (by rfl) (pa_cons (pe_c (E := E0) (ok_new T) hr (by decide) passX (by rfl) (pa_cons pe_int (pa_cons pe_int (pa_cons pe_int (pa_cons pe_int pa_nil))))) pa_nil)) rfl), ?_⟩
    obtain ⟨l, dl, rfl, hl, q⟩ := h
    refine ⟨0, 10, 10, 0, rfl, fun n e => (by cases e), fun _ H1 t k1 nt ht => ?_⟩
    intro x dx nx nd ndx
    have s2 := Same.made2 (C := A.CJ) (fs := []) nx nd
    refine ⟨x, t, dx, 0, 10, 10, false, rfl, upd_same, ht.same s2, by decide, fun H3 J k3 ej hJ hf => ⟨rfl, ?_⟩⟩
    have hl2 := s2 _ _ (k1 _ _ hl)
    have lx : l ≠ x := ne_of_none (k1 _ _ hl) nx
    have hl3 := k3 _ _ hl2 lx
    refine ⟨_, rfl, l, A.CL, dl, [], rfl, hl3, T.clL, T.nJoin, (by show 0 < 1000; decide), ?_⟩
    have nl : ¬ Ft J l := fun f => by
      rcases hf l f with z | z | z
      · exact lx z
      · rw [z, nt] at hl
        cases hl
      · rw [hl2] at z
        cases z
    refine q _ J (fun b o e n => at_ne (k3 b o (s2 b o (k1 b o e)) fun z => ?_) n) ⟨⟨dl, ?_⟩, hJ.at fun b f o e => at_ne e fun z => nl (z ▸ f)⟩
    · have e1 := k1 b o e
      rw [z, nx] at e1
      cases e1
    · rw [upd_same]
      unfold lineF
      rw [ej]
      rfl
  · obtain ⟨l, dl, rfl, _⟩ := h
    rfl
theorem scAnswer : FnScope ["self", "call"] ["self", "call"] (defScope (sLine 1)) := ⟨rfl, rfl, rfl, by decide +kernel, rfl, by decide +kernel, by decide +kernel⟩
theorem beg_kind {k a b e : Nat} (h : beg k a b e = none) : k ≤ 3 := by
  refine Nat.le_of_not_lt fun z => ?_
  unfold beg at h
  rw [if_pos z] at h
  cases h
theorem ok_answer (T : Txt K mg A) : Met P w K mg base (L2.CX P w) 21 A.CL "answer" (spAnswer A) := by
  refine metX (k := 20) T.clL T.mAnswer (fun _ _ _ _ _ _ us hl => match us, hl with | [_, _], _ => rfl) scAnswer (fun vs H Q E h => ?_) (fun f cdv Ar outer s H vs Q E hr h => ?_)
  rotate_left
  · refine ⟨_, pss_cons (ps_if (pt_cmpR op_eq (pe_ix ix_list (pv 1) pe_int (fun _ _ => rfl)) (pe_ic T.BEGIN rfl) (nomark _))
        (pss_cons (ps_fld (pv 0) (pe_mk (ok_joinI T) hr (by decide) pass0 (by rfl) (pa_cons (pe_c (ok_new T) hr (by decide) passE (by rfl) (pa_cons (pe_ix ix_list (pv 1) pe_int (fun _ _ => rfl)) (pa_cons (pe_ix ix_list (pv 1) pe_int (fun _ _ => rfl)) (pa_cons (pe_ix ix_list (pv 1) pe_int (fun _ _ => rfl)) (pa_cons (pe_ix ix_list (pv 1) pe_int (fun _ _ => rfl)) pa_nil))))) pa_nil)) rfl)
        (pss_one (ps_ret (pe_lst (pa_cons pe_int pa_nil))))) pss_nil)
      (pss_one (ps_ret (pe_c (ok_told T) hr (by decide) passE (by rfl) (pa_cons (pe_fld (pv 0) rfl) (pa_cons (pv 1) pa_nil))))), ?_⟩
    obtain ⟨l, J, m, qa, c, rfl, ⟨⟨dl, hl⟩, hJ⟩, hz, hq, h1, h2⟩ := h
    have nf : ¬ Ft J l := line_not hl hJ
    by_cases hc : JM.code c = 0
    · cases c with
      | begin_ k a b e =>
        refine ⟨_, rfl, qa, _, _, _, rfl, rfl, SqL.of hq, at_of (j := 0) rfl rfl, rfl, _, rfl, iteT ?_⟩
        rw [exec_begin] at h1 h2
        refine ⟨_, rfl, qa, _, _, _, rfl, rfl, SqL.of hq, at_of (j := 1) rfl rfl, _, rfl, qa, _, _, _, rfl, rfl, SqL.of hq, at_of (j := 2) rfl rfl, _, rfl, qa, _, _, _, rfl, rfl, SqL.of hq, at_of (j := 3) rfl rfl, _, rfl, qa, _, _, _, rfl, rfl, SqL.of hq, at_of (j := 4) rfl rfl,
          k, a, b, e, rfl, fun n en => h1 n (by rw [en]), fun en H1 t k1 nt ht => ?_⟩
        have q := h2 (JM.new k a b (e == 1), [0]) (by rw [en])
        intro x dx nx nd ndx
        have s2 := Same.made2 (C := A.CJ) (fs := []) nx nd
        refine ⟨x, t, dx, k, a, b, e == 1, rfl, upd_same, ht.same s2, beg_kind en, fun H3 J3 k3 ej hJ3 hf => ⟨rfl, ?_⟩⟩
        have hl2 := s2 _ _ (k1 _ _ hl)
        have lx : l ≠ x := ne_of_none (k1 _ _ hl) nx
        have hl3 := k3 _ _ hl2 lx
        refine ⟨_, rfl, l, A.CL, dl, lineF J, rfl, hl3, T.clL, T.nJoin, (by show 1 < 1000; decide), ?_⟩
        have nl : ¬ Ft J3 l := line_not hl3 hJ3
        have ep : putF "join" (.ref x) (lineF J) = lineF J3 := by
          unfold lineF
          rw [put_here, ej]
        rw [ep]
        refine ⟨by show 1 ≤ sizeLine; decide, fun p hp => ?_⟩
        have s4 := same_upd (o := .lst [.int 0]) hp
        have kk : ∀ b o, H b = some o → b ≠ l → upd H3 l (.ins A.CL dl (lineF J3)) b = some o := fun b o e n => at_ne (k3 b o (s2 b o (k1 b o e)) fun z => by
          have e1 := k1 b o e
          rw [z, nx] at e1
          cases e1) n
        have pl := (no_ne hp).1
        have p0 : H p = none := by
          cases eb : H p with
          | none => rfl
          | some o =>
            have w := kk p o eb pl
            rw [hp] at w
            cases w
        refine q _ J3 p (LineAt.same (H := upd H3 l (.ins A.CL dl (lineF J3))) ⟨⟨dl, upd_same⟩, hJ3.at fun b f o e => at_ne e fun z => nl (z ▸ f)⟩ s4) (fun b o e n => s4 _ _ (kk b o e fun z => n (.inl z))) (fun b f => .inr ?_) (.inr p0) upd_same
        rcases hf b f with z | z | z
        · rw [z]
          exact k1.free nx
        · rw [z]
          exact nt
        · exact k1.free (no_ne (no_ne z).2).2
      | left k t => cases hc
      | right k t => cases hc
      | markL t => cases hc
      | markR t => cases hc
      | lefts => cases hc
      | rights => cases hc
      | counts => cases hc
      | at_ k t => cases hc
    · have hn : ((JM.enc c).map V.int)[0]? = some (nv (JM.code c)) := by
        rw [List.getElem?_map, JM.enc_head]
        rfl
      refine ⟨_, rfl, qa, _, _, _, rfl, rfl, SqL.of hq, at_of (j := 0) rfl hn, rfl, _, rfl, ?_⟩
      have z : decide (nv (JM.code c) = V.int 0) = false := decide_eq_false fun y => hc (nv0.mp (decide_eq_true y))
      rw [z]
      refine iteF ⟨_, rfl, l, A.CL, dl, _, _, rfl, hl, T.clL, T.nJoin, lk_here, _, rfl, J, m, qa, c, rfl, hJ, hz, hq, hc, h1, fun x ex H' J' p ej k j' f nw hp => ?_⟩
      refine h2 x ex H' J' p ⟨⟨dl, ?_⟩, j'⟩ (k.mono fun b z => .inr z) f nw hp
      have e := k _ _ hl nf
      unfold lineF at e ⊢
      rw [ej]
      exact e
  · obtain ⟨l, J, m, q, c, rfl, _⟩ := h
    rfl
theorem scAll : FnScope ["self", "call", "error"] ["self", "call"] (defScope (sLine 2)) := ⟨rfl, rfl, rfl, by decide +kernel, rfl, by decide +kernel, by decide +kernel⟩
theorem ok_all (T : Txt K mg A) : Met P w K mg base CX0 24 A.CL "answer_all" (spAll A) := by
  refine met0 (k := 23) T.clL T.mAnswerAll (fun _ _ _ _ _ _ us hl => match us, hl with | [_, _], _ => rfl) scAll (fun vs H Q E h => ?_) (fun f cdv Ar outer s H vs Q E hr h => ?_)
  rotate_left
  · refine ⟨_, pss_one (ps_try_as (i := 2) (tb := fun W => tRet (tMethS A.CL "answer" (spAnswer A) (WE W) (tVar 0) (tCons (tVar 1) tNil))) (ts := fun a cls d => tRet (tLst (tCons (tByLow A.CF a cls d (tVar 2)) tNil))) (Wout := fun _ _ _ _ => False) rfl rfl scAll.nd rfl rfl ⟨rfl, by decide, Or.inl T.low.gC⟩ takesX
        (fun W pn xe tk _ => pss_one (ps_ret (by exact (pe_mtS (ok_answer T) hr (by decide) (pv 0) (fun σ => passAt tk σ) (by exact (pa_cons (pv 1) pa_nil))))))
        (fun a oe cls d pn hz hf => pss_one (ps_ret (by exact (pe_lst (pa_cons (pe_byLow T.low hz hf (pv 2)) pa_nil)))))), ?_⟩
    obtain ⟨l, J, m, qa, c, rfl, hL, hz, hq, q⟩ := h
    obtain ⟨dl, hl⟩ := hL.li
    refine ⟨_, rfl, l, dl, _, rfl, hl, ?_, _, rfl, l, J, m, qa, c, rfl, hL, hz, hq, fun n en => ?_, fun x ex => ?_⟩
    · exact (lk_past (by decide +kernel)).trans rfl
    · intro H' d k hd
      refine ⟨true, T.low.te, fun _ a0 _ => ?_, fun q => Bool.noConfusion q⟩
      refine ⟨_, rfl, rfl, rfl, d, _, rfl, hd, (by show 1 ≤ sizeLine; decide), fun p hp => ?_⟩
      have s2 := k.trans (same_upd (o := .lst [.int n]) hp)
      have e : m.step c = (m, [n]) := by unfold M.step; rw [en]
      rw [e] at q
      exact q _ J p (hL.same s2) (Kp.of s2) (fun b f => .inl f) (.inr (k.free hp)) upd_same
    · have e : m.step c = x := by unfold M.step; rw [ex]
      rw [e] at q
      exact q
  · obtain ⟨l, J, m, q, c, rfl, _⟩ := h
    rfl
end
end JW
/-! ### all calls are answered -/
namespace JW
open PySem PySem.Spec PyProof.Rows L2
open JM (M)
def spAns (K : PySem.W.Frag) : Sp := fun vs H Q _ => ∃ (a : Addr) (ns : List Int), vs = [.ref a] ∧ SqL K H a (ns.map V.int) ∧ PyHs06.answers_asked ns = true ∧ ∀ (H' : Hp) (p : Addr), H' p = some (.lst ((PyHs06.answers ns).map V.int)) → Q (.ref p) H'
/-- between two calls -/
structure AI (A : Adr) (l rw q : Addr) (as : List Addr) (xs : List Hs06.Call) (i : Nat) (H : Hp) (J : JA) (m : M) (out : List Int) : Prop where
  li : LineAt A H l J m
  sz : JM.Sz i m
  ro : H rw = some (.lst (out.map V.int))
  hq : H q = some (.lst (refs as))
  hc : CallsAt H as xs
  nf : ∀ b, b = rw ∨ b = q ∨ b ∈ as → ¬ Ft J b
  sum : out ++ JM.runAll m (xs.drop i) = JM.runAll (JM.new 0 10 10 false) xs
theorem drop_at {α : Type} {l : List α} {i : Nat} {x : α} (h : l[i]? = some x) : l.drop i = x :: l.drop (i + 1) := by
  obtain ⟨hi, hx⟩ := List.getElem?_eq_some_iff.mp h
  rw [List.drop_eq_getElem_cons hi, hx]
section
variable {P : Program} {w : World} {K : PySem.W.Frag} {mg : Str → Option Value} {base : Heap} {A : Adr}
theorem scAns : FnScope ["calls", "line", "row", "call", "told"] ["calls"] (defScope sAns) := ⟨rfl, rfl, rfl, by decide +kernel, rfl, by decide +kernel, by decide +kernel⟩
theorem ok_ans {f : Addr} {fd : FuncData} (F : Fun K "answers" "answers" sAns f fd) (T : Txt K mg A) : FnOk P w K mg base CX0 27 f fd ["calls"] (spAns K) := by
  refine F.ok (k := 26) scAns (fun vs H Q E h => ?_) (fun cdv Ar outer s H vs Q E hr h => ?_)
  · obtain ⟨a, ns, rfl, _⟩ := h
    rfl
  · refine ⟨_, pss_cons (ps_set (i := 1) scAns.nd rfl (.inl rfl) (pe_mk0 (ok_lineI T) hr (by decide) pass0 (by rfl))) (pss_cons (ps_set (i := 2) scAns.nd rfl (.inl rfl) (pe_lst pa_nil))
      (pss_cons (ps_for PassesOwn.never rfl (pi_list (pe_c (ok_read T) hr (by decide) pass0 (by rfl) (pa_cons (pv 0) pa_nil))) (pg_name (i := 3) scAns.nd rfl (.inl rfl))
        (pss_cons (ps_set (i := 4) scAns.nd rfl (.inl rfl) (pe_mt (ok_all T) hr (by decide) pass0 (pv 1) (pa_cons (pv 3) pa_nil)))
        (pss_cons (ps_expr (pe_bm PySem.F.plainAttrs_list PySem.F.slot_list_append PySem.F.type_list_append mt_append (pv 2) (pa_cons (pe_callB call_len_seq (by rfl) T.bLen PySem.boot_len (pa_cons (pv 4) pa_nil)) pa_nil)))
        (pss_one (ps_expr (pe_bm PySem.F.plainAttrs_list PySem.F.slot_list_extend PySem.F.type_list_extend mt_extend (pv 2) (pa_cons (pv 4) pa_nil)))))))
      (pss_one (ps_ret (pv 2))))), ?_⟩
    obtain ⟨a, ns, rfl, ha, hask, qq⟩ := h
    obtain ⟨xs, ens, hlen, eans, hbig⟩ := JM.asked_run hask
    have ens : ns = flat xs := ens
    subst ens
    rw [eans] at qq
    -- line = Line()
    intro l dl nl nd ndl
    have s1 := Same.made2 (C := A.CL) (fs := []) nl nd
    refine ⟨l, dl, rfl, upd_same, fun H1 J k1 hL => ⟨rfl, ?_⟩⟩
    have ha1 : SqL K H1 a ((flat xs).map V.int) := sql_same ha fun b o e => k1 b o (s1 b o e) fun z => by
      rw [z, nl] at e
      cases e
    -- row = []
    refine ⟨by show 0 ≤ sizeLine; decide, fun rw' hrw => ?_⟩
    have s2 := same_upd (o := .lst []) hrw
    have nrw : ¬ Ft J rw' := hL.jo.notFt hrw
    -- the calls
    refine ⟨_, rfl, a, xs, rfl, sql_same ha1 s2, hlen, fun H3 q as s3 nq nas hq hc => ?_⟩
    have s23 := s2.trans s3
    have hrw3 : H3 rw' = some (.lst []) := s3 _ _ upd_same
    have rq : rw' ≠ q := fun z => by
      rw [← z, upd_same] at nq
      cases nq
    have ras : ∀ b ∈ as, b ≠ rw' := fun b hb z => by
      have e := nas b hb
      rw [z, upd_same] at e
      cases e
    have first : AI A l rw' q as xs 0 H3 J (JM.new 0 10 10 false) [] :=
      ⟨hL.same s23, ⟨fun _ => Nat.le_refl 0, Nat.le_refl 0⟩, hrw3, hq, hc, fun b hb => by
        rcases hb with rfl | rfl | hb
        · exact nrw
        · exact hL.jo.notFt (s2.free nq)
        · exact hL.jo.notFt (s2.free (nas b hb)), rfl⟩
    have e0 : (refs as).length = xs.length := by unfold refs; rw [List.length_map]; exact hc.1
    refine ⟨q, rfl, ⟨_, SqL.of hq⟩, for_list (K := K) (a := q) (xs := refs as)
      (fun i σ H' => ∃ (v3 v4 : Option V) (J : JA) (m : M) (out : List Int), σ = [some (.ref a), some (.ref l), some (.ref rw'), v3, v4] ∧ AI A l rw' q as xs i H' J m out)
      ⟨none, none, J, _, [], rfl, first⟩ (fun i σ H' _ ⟨_, _, _, _, _, _, I⟩ => SqL.of I.hq) ?_ ?_⟩
    · rintro i x σ H' hx ⟨v3, v4, J, m, out, rfl, I⟩
      obtain ⟨b, eb, rfl⟩ := refs_get hx
      have hi : i < xs.length := by rw [← I.hc.1]; exact (List.getElem?_eq_some_iff.mp eb).1
      have ec : xs[i]? = some xs[i] := List.getElem?_eq_getElem hi
      generalize xs[i] = c at ec
      have hb := I.hc.2 i b c eb ec
      obtain ⟨dl, hl⟩ := I.li.li
      refine ⟨_, rfl, l, dl, _, rfl, hl, (lk_past (by decide +kernel)).trans rfl, _, rfl, l, J, m, b, c, rfl, I.li, I.sz.mono (by omega), hb, fun H2 J2 p hL2 k2 f2 nw hp => ?_⟩
      -- what is kept
      have keep : ∀ b xs', (b = rw' ∨ b = q ∨ b ∈ as) → H' b = some (.lst xs') → H2 b = some (.lst xs') ∧ ¬ Ft J2 b ∧ b ≠ l := fun b xs' hb e => by
        have n1 : b ≠ l := ne_of e hl (by intro z; cases z)
        have n2 := I.nf b hb
        refine ⟨k2 b _ e fun z => z.elim n1 n2, fun f => ?_, n1⟩
        rcases f2 b f with z | z
        · exact n2 z
        · rw [e] at z
          cases z
      obtain ⟨r2, nr2, rl⟩ := keep rw' _ (.inl rfl) I.ro
      have q2 := keep q _ (.inr (.inl rfl)) I.hq
      have pr : p ≠ rw' := fun z => by
        rcases nw with f | f
        · exact I.nf rw' (.inl rfl) (z ▸ f)
        · rw [z, I.ro] at f
          cases f
      have esum := I.sum
      have erun : JM.runAll m (xs.drop i) = (((m.step c).2.length : Int) :: (m.step c).2) ++ JM.runAll (m.step c).1 (xs.drop (i + 1)) := by
        rw [drop_at ec]
        rfl
      rw [erun] at esum
      have big : (out ++ ((((m.step c).2.length : Int) :: (m.step c).2) ++ JM.runAll (m.step c).1 (xs.drop (i + 1)))).length ≤ 10000000 := by rw [esum]; exact hbig
      rw [List.length_append, List.length_append, List.length_cons] at big
      have sl : (10000000 : Nat) < sizeLine := by decide
      refine ⟨_, rfl, .inl ⟨rfl, _, SqL.of r2⟩, _, rfl, p, _, rfl, .inl (SqL.of hp), rw', _, _, rfl, rfl, r2, ?_, ?_⟩
      · rw [List.length_map]
        omega
      have hL3 := hL2.upd (o := .lst (out.map V.int ++ [.int (((m.step c).2.map V.int).length : Nat)])) rl.symm nr2
      refine ⟨_, rfl, .inl ⟨rfl, _, SqL.of upd_same⟩, _, rfl, rw', p, _, _, rfl, rfl, upd_same, at_ne hp pr, ?_, ?_⟩
      · rw [List.length_append, List.length_map, List.length_map]
        show out.length + 1 + (m.step c).2.length ≤ sizeLine
        omega
      rw [upd_upd]
      refine ⟨_, _, J2, (m.step c).1, out ++ (((m.step c).2.length : Int) :: (m.step c).2), rfl, hL2.upd rl.symm nr2, JM.step_sz I.sz c, ?_, at_ne q2.1 rq.symm, ?_, fun b hb => ?_, ?_⟩
      · rw [upd_same, List.length_map, List.map_append, List.append_assoc]
        rfl
      · refine ⟨I.hc.1, fun j b' c' e1 e2 => ?_⟩
        have mb := List.mem_of_getElem? e1
        exact at_ne (keep b' _ (.inr (.inr mb)) (I.hc.2 j b' c' e1 e2)).1 (ras b' mb)
      · rcases hb with rfl | rfl | hb
        · exact nr2
        · exact q2.2.1
        · obtain ⟨j, ej⟩ := List.mem_iff_getElem?.mp hb
          have hj : j < xs.length := by rw [← I.hc.1]; exact (List.getElem?_eq_some_iff.mp ej).1
          exact (keep b _ (.inr (.inr hb)) (I.hc.2 j b _ ej (List.getElem?_eq_getElem hj))).2.1
      · rw [List.append_assoc]
        exact esum
    · rintro σ H' ⟨v3, v4, J, m, out, rfl, I⟩
      have es := I.sum
      rw [e0, List.drop_length] at es
      have es : out ++ [] = _ := es
      rw [List.append_nil] at es
      refine ⟨_, rfl, qq H' rw' ?_⟩
      rw [← es]
      exact I.ro
end
end JW
/-! ### the end -/
namespace JW
open PySem PySem.Spec PyProof.Rows L2
open JM (M)
abbrev sLow : Stmt := inClass (top 6) 0
/-- an error of the class at S is what «except S» names -/
theorem exm_own {K : PySem.W.Frag} {S : Addr} (h1 : PySem.W.subIn K (.ref S) (.type "BaseException") = some true) (h2 : PySem.W.isClsIn K S = true) (h3 : PySem.W.typeIn K (.ref S) = some (.type "type")) (h4 : PySem.W.subIn K (.ref S) (.ref S) = some true) :
    PySem.W.exmOne K (.ref S) (.ref S) = some true := by
  have e1 : (PySem.W.subIn K (.ref S) (.type "BaseException") == some true) = true := by rw [h1] <;> rfl
  have e2 : ((PySem.W.clsIn K S).isSome && PySem.W.typeIn K (.ref S) == some (.type "type")) = true := by
    have h2' : (PySem.W.clsIn K S).isSome = true := h2
    rw [h2', h3] <;> rfl
  show (if (PySem.W.subIn K (.ref S) (.type "BaseException") == some true) = true then (if ((PySem.W.clsIn K S).isSome && PySem.W.typeIn K (.ref S) == some (.type "type")) = true then PySem.W.subIn K (.ref S) (.ref S) else none) else none) = some true
  rw [if_pos e1, if_pos e2]
  exact h4
theorem all_mk {P : Program} {w : World} {K : PySem.W.Frag} {h : Heap} {mg : Str → Option Value} {fa : Addr} (X : K.In h) (G : h.Ns mainGlobals mg) (hfa : mg "answers" = some (.ref fa))
    {f1 f2 f3 f4 f5 f6 f7 f8 f9 f10 f11 f12 f13 f14 f15 CR f16 f17 CJ f18 f19 f20 f21 f22 f23 f24 f25 f26 f27 f28 f29 f30 CT f31 f32 f33 f34 f35 f36 f37 CL f38 f39 f40 bT b0 b1 b2 b3 bB CF fI : Addr}
    {od1 an1 od2 an2 od3 an3 od4 an4 od5 an5 od6 an6 od7 an7 od8 an8 od9 an9 od10 an10 od11 an11 od12 an12 od13 an13 od14 an14 od15 an15 od16 an16 od17 an17 od18 an18 od19 an19 od20 an20 od21 an21 od22 an22 od23 an23 od24 an24 od25 an25 od26 an26 od27 an27 od28 an28 od29 an29 od30 an30 od31 an31 od32 an32 od33 an33 od34 an34 od35 an35 od36 an36 od37 an37 od38 an38 od39 an39 od40 an40 odT odT0 odT1 odT2 odT3 odB od0 an0 : Option Addr}
    {sl1 sl2 sl3 sl4 sl5 sl6 sl7 sl8 sl9 sl10 sl11 sl12 sl13 sl14 sl15 sl16 sl17 sl18 sl19 sl20 sl21 sl22 sl23 sl24 sl25 sl26 sl27 sl28 sl29 sl30 sl31 sl32 sl33 sl34 sl35 sl36 sl37 sl38 sl39 sl40 slT slT0 slT1 slT2 slT3 slB sl0 : Array (Option Value)}
    {kV1 oc1 dc1 pm1 cd1 ct1 kV2 oc2 dc2 pm2 cd2 ct2 kV3 oc3 dc3 pm3 cd3 ct3 kV4 oc4 dc4 pm4 cd4 ct4 kV5 oc5 dc5 pm5 cd5 ct5 kV6 oc6 dc6 pm6 cd6 ct6 kV7 oc7 dc7 pm7 cd7 ct7 kV8 oc8 dc8 pm8 cd8 ct8 kV9 oc9 dc9 pm9 cd9 ct9 kV10 oc10 dc10 pm10 cd10 ct10 kV11 oc11 dc11 pm11 cd11 ct11 kV12 oc12 dc12 pm12 cd12 ct12 kV13 oc13 dc13 pm13 cd13 ct13 kV14 oc14 dc14 pm14 cd14 ct14 kV15 oc15 dc15 pm15 cd15 ct15 kV16 oc16 dc16 pm16 cd16 ct16 kV17 oc17 dc17 pm17 cd17 ct17 kV18 oc18 dc18 pm18 cd18 ct18 kV19 oc19 dc19 pm19 cd19 ct19 kV20 oc20 dc20 pm20 cd20 ct20 kV21 oc21 dc21 pm21 cd21 ct21 kV22 oc22 dc22 pm22 cd22 ct22 kV23 oc23 dc23 pm23 cd23 ct23 kV24 oc24 dc24 pm24 cd24 ct24 kV25 oc25 dc25 pm25 cd25 ct25 kV26 oc26 dc26 pm26 cd26 ct26 kV27 oc27 dc27 pm27 cd27 ct27 kV28 oc28 dc28 pm28 cd28 ct28 kV29 oc29 dc29 pm29 cd29 ct29 kV30 oc30 dc30 pm30 cd30 ct30 kV31 oc31 dc31 pm31 cd31 ct31 kV32 oc32 dc32 pm32 cd32 ct32 kV33 oc33 dc33 pm33 cd33 ct33 kV34 oc34 dc34 pm34 cd34 ct34 kV35 oc35 dc35 pm35 cd35 ct35 kV36 oc36 dc36 pm36 cd36 ct36 kV37 oc37 dc37 pm37 cd37 ct37 kV38 oc38 dc38 pm38 cd38 ct38 kV39 oc39 dc39 pm39 cd39 ct39 kV40 oc40 dc40 pm40 cd40 ct40 oc0 dc0 pm0 cd0 ct0 : Value}
    {tNO_SORT tBEYOND tNOT_GRANTED tOTHER_SORT tGONE_BY tLEFT tRIGHT tTOLD tTAKEN_BACK tMOST_TIME tMOMENT tMOST_FAR tBEGIN eT eT0 u1 eT1 u2 u3 eT2 eT3 w0 w1 w2 w3 w4 w5 w6 w7 w8 eB : Nat}
    {rnm rq : Str} {rN : Addr} {rbs : List Value} {rsn : List Str} {rsub : List Value} {rab : Bool} {rcol : Option Bool} {rdd : Option Addr} {m0 m1 m2 m3 m5 : Option Value}
    (a1 : PySem.W.nsIn K mainGlobals "ask" = some (some (.ref f1)))
    (l1 : K.lookup f1 = some ⟨oc1, od1, .func (PySem.W.fnOf "ask" "ask" (defArgs (sAsk)) (defBody (sAsk)) (defScope (sAsk)) .none kV1 dc1 pm1 an1 cd1 ct1), sl1⟩)
    (c1 : PySem.W.codeIn K cd1 "ask" = true)
    (k1 : PySem.W.keepIn K (.ref f1) = true)
    (a2 : PySem.W.nsIn K mainGlobals "other_side" = some (some (.ref f2)))
    (l2 : K.lookup f2 = some ⟨oc2, od2, .func (PySem.W.fnOf "other_side" "other_side" (defArgs (sOther)) (defBody (sOther)) (defScope (sOther)) .none kV2 dc2 pm2 an2 cd2 ct2), sl2⟩)
    (c2 : PySem.W.codeIn K cd2 "other_side" = true)
    (k2 : PySem.W.keepIn K (.ref f2) = true)
    (a3 : PySem.W.nsIn K mainGlobals "alone" = some (some (.ref f3)))
    (l3 : K.lookup f3 = some ⟨oc3, od3, .func (PySem.W.fnOf "alone" "alone" (defArgs (sAlone)) (defBody (sAlone)) (defScope (sAlone)) .none kV3 dc3 pm3 an3 cd3 ct3), sl3⟩)
    (c3 : PySem.W.codeIn K cd3 "alone" = true)
    (k3 : PySem.W.keepIn K (.ref f3) = true)
    (a4 : PySem.W.nsIn K mainGlobals "changes_told" = some (some (.ref f4)))
    (l4 : K.lookup f4 = some ⟨oc4, od4, .func (PySem.W.fnOf "changes_told" "changes_told" (defArgs (sChanges)) (defBody (sChanges)) (defScope (sChanges)) .none kV4 dc4 pm4 an4 cd4 ct4), sl4⟩)
    (c4 : PySem.W.codeIn K cd4 "changes_told" = true)
    (k4 : PySem.W.keepIn K (.ref f4) = true)
    (a5 : PySem.W.nsIn K mainGlobals "rows_told" = some (some (.ref f5)))
    (l5 : K.lookup f5 = some ⟨oc5, od5, .func (PySem.W.fnOf "rows_told" "rows_told" (defArgs (sRows)) (defBody (sRows)) (defScope (sRows)) .none kV5 dc5 pm5 an5 cd5 ct5), sl5⟩)
    (c5 : PySem.W.codeIn K cd5 "rows_told" = true)
    (k5 : PySem.W.keepIn K (.ref f5) = true)
    (a6 : PySem.W.nsIn K mainGlobals "is_newer" = some (some (.ref f6)))
    (l6 : K.lookup f6 = some ⟨oc6, od6, .func (PySem.W.fnOf "is_newer" "is_newer" (defArgs (sNewer)) (defBody (sNewer)) (defScope (sNewer)) .none kV6 dc6 pm6 an6 cd6 ct6), sl6⟩)
    (c6 : PySem.W.codeIn K cd6 "is_newer" = true)
    (k6 : PySem.W.keepIn K (.ref f6) = true)
    (a7 : PySem.W.nsIn K mainGlobals "holding" = some (some (.ref f7)))
    (l7 : K.lookup f7 = some ⟨oc7, od7, .func (PySem.W.fnOf "holding" "holding" (defArgs (sHolding)) (defBody (sHolding)) (defScope (sHolding)) .none kV7 dc7 pm7 an7 cd7 ct7), sl7⟩)
    (c7 : PySem.W.codeIn K cd7 "holding" = true)
    (k7 : PySem.W.keepIn K (.ref f7) = true)
    (a8 : PySem.W.nsIn K mainGlobals "end_of" = some (some (.ref f8)))
    (l8 : K.lookup f8 = some ⟨oc8, od8, .func (PySem.W.fnOf "end_of" "end_of" (defArgs (sEnd)) (defBody (sEnd)) (defScope (sEnd)) .none kV8 dc8 pm8 an8 cd8 ct8), sl8⟩)
    (c8 : PySem.W.codeIn K cd8 "end_of" = true)
    (k8 : PySem.W.keepIn K (.ref f8) = true)
    (a9 : PySem.W.nsIn K mainGlobals "is_asked" = some (some (.ref f9)))
    (l9 : K.lookup f9 = some ⟨oc9, od9, .func (PySem.W.fnOf "is_asked" "is_asked" (defArgs (sAsked)) (defBody (sAsked)) (defScope (sAsked)) .none kV9 dc9 pm9 an9 cd9 ct9), sl9⟩)
    (c9 : PySem.W.codeIn K cd9 "is_asked" = true)
    (k9 : PySem.W.keepIn K (.ref f9) = true)
    (a10 : PySem.W.nsIn K mainGlobals "is_kept" = some (some (.ref f10)))
    (l10 : K.lookup f10 = some ⟨oc10, od10, .func (PySem.W.fnOf "is_kept" "is_kept" (defArgs (sKept)) (defBody (sKept)) (defScope (sKept)) .none kV10 dc10 pm10 an10 cd10 ct10), sl10⟩)
    (c10 : PySem.W.codeIn K cd10 "is_kept" = true)
    (k10 : PySem.W.keepIn K (.ref f10) = true)
    (a11 : PySem.W.nsIn K mainGlobals "turn_of" = some (some (.ref f11)))
    (l11 : K.lookup f11 = some ⟨oc11, od11, .func (PySem.W.fnOf "turn_of" "turn_of" (defArgs (sTurn)) (defBody (sTurn)) (defScope (sTurn)) .none kV11 dc11 pm11 an11 cd11 ct11), sl11⟩)
    (c11 : PySem.W.codeIn K cd11 "turn_of" = true)
    (k11 : PySem.W.keepIn K (.ref f11) = true)
    (a12 : PySem.W.nsIn K mainGlobals "new_terms" = some (some (.ref f12)))
    (l12 : K.lookup f12 = some ⟨oc12, od12, .func (PySem.W.fnOf "new_terms" "new_terms" (defArgs (sNew)) (defBody (sNew)) (defScope (sNew)) .none kV12 dc12 pm12 an12 cd12 ct12), sl12⟩)
    (c12 : PySem.W.codeIn K cd12 "new_terms" = true)
    (k12 : PySem.W.keepIn K (.ref f12) = true)
    (a13 : PySem.W.nsIn K mainGlobals "read_calls" = some (some (.ref f13)))
    (l13 : K.lookup f13 = some ⟨oc13, od13, .func (PySem.W.fnOf "read_calls" "read_calls" (defArgs (sRead)) (defBody (sRead)) (defScope (sRead)) .none kV13 dc13 pm13 an13 cd13 ct13), sl13⟩)
    (c13 : PySem.W.codeIn K cd13 "read_calls" = true)
    (k13 : PySem.W.keepIn K (.ref f13) = true)
    (a14 : PySem.W.nsIn K mainGlobals "told_by" = some (some (.ref f14)))
    (l14 : K.lookup f14 = some ⟨oc14, od14, .func (PySem.W.fnOf "told_by" "told_by" (defArgs (sToldBy)) (defBody (sToldBy)) (defScope (sToldBy)) .none kV14 dc14 pm14 an14 cd14 ct14), sl14⟩)
    (c14 : PySem.W.codeIn K cd14 "told_by" = true)
    (k14 : PySem.W.keepIn K (.ref f14) = true)
    (a15 : PySem.W.nsIn K mainGlobals "answers" = some (some (.ref f15)))
    (l15 : K.lookup f15 = some ⟨oc15, od15, .func (PySem.W.fnOf "answers" "answers" (defArgs (sAns)) (defBody (sAns)) (defScope (sAns)) .none kV15 dc15 pm15 an15 cd15 ct15), sl15⟩)
    (c15 : PySem.W.codeIn K cd15 "answers" = true)
    (k15 : PySem.W.keepIn K (.ref f15) = true)
    (aCR : PySem.W.nsIn K mainGlobals "Row" = some (some (.ref CR)))
    (pgR : PySem.W.plainGet K CR Str.empty = true)
    (hdR : PySem.W.hasDictIn K CR = true)
    (poR : PySem.W.plainOver K CR = true)
    (saR : PySem.W.findIn K (.ref CR) "__setattr__" = some (some (.builtin "object.__setattr__")))
    (mkR : PySem.W.makesIn K CR = true)
    (kcR : PySem.W.keepIn K (.ref CR) = true)
    (a16 : PySem.W.findIn K (.ref CR) "__init__" = some (some (.ref f16)))
    (i16 : PySem.W.isFn K (.ref f16) = true)
    (l16 : K.lookup f16 = some ⟨oc16, od16, .func (PySem.W.fnOf "__init__" "Row.__init__" (defArgs (sRowI)) (defBody (sRowI)) (defScope (sRowI)) .none kV16 dc16 pm16 an16 cd16 ct16), sl16⟩)
    (c16 : PySem.W.codeIn K cd16 "Row.__init__" = true)
    (k16 : PySem.W.keepIn K (.ref f16) = true)
    (a17 : PySem.W.findIn K (.ref CR) "shown" = some (some (.ref f17)))
    (i17 : PySem.W.isFn K (.ref f17) = true)
    (l17 : K.lookup f17 = some ⟨oc17, od17, .func (PySem.W.fnOf "shown" "Row.shown" (defArgs (sShown)) (defBody (sShown)) (defScope (sShown)) .none kV17 dc17 pm17 an17 cd17 ct17), sl17⟩)
    (c17 : PySem.W.codeIn K cd17 "Row.shown" = true)
    (k17 : PySem.W.keepIn K (.ref f17) = true)
    (nNumber : PySem.W.findIn K (.ref CR) "number" = some none)
    (nKey : PySem.W.findIn K (.ref CR) "key" = some none)
    (nTime : PySem.W.findIn K (.ref CR) "time" = some none)
    (nMet : PySem.W.findIn K (.ref CR) "has_met" = some none)
    (aCJ : PySem.W.nsIn K mainGlobals "Join" = some (some (.ref CJ)))
    (pgJ : PySem.W.plainGet K CJ Str.empty = true)
    (hdJ : PySem.W.hasDictIn K CJ = true)
    (poJ : PySem.W.plainOver K CJ = true)
    (saJ : PySem.W.findIn K (.ref CJ) "__setattr__" = some (some (.builtin "object.__setattr__")))
    (mkJ : PySem.W.makesIn K CJ = true)
    (kcJ : PySem.W.keepIn K (.ref CJ) = true)
    (a18 : PySem.W.findIn K (.ref CJ) "__init__" = some (some (.ref f18)))
    (i18 : PySem.W.isFn K (.ref f18) = true)
    (l18 : K.lookup f18 = some ⟨oc18, od18, .func (PySem.W.fnOf "__init__" "Join.__init__" (defArgs (sJoin 0)) (defBody (sJoin 0)) (defScope (sJoin 0)) .none kV18 dc18 pm18 an18 cd18 ct18), sl18⟩)
    (c18 : PySem.W.codeIn K cd18 "Join.__init__" = true)
    (k18 : PySem.W.keepIn K (.ref f18) = true)
    (a19 : PySem.W.findIn K (.ref CJ) "pair" = some (some (.ref f19)))
    (i19 : PySem.W.isFn K (.ref f19) = true)
    (l19 : K.lookup f19 = some ⟨oc19, od19, .func (PySem.W.fnOf "pair" "Join.pair" (defArgs (sJoin 1)) (defBody (sJoin 1)) (defScope (sJoin 1)) .none kV19 dc19 pm19 an19 cd19 ct19), sl19⟩)
    (c19 : PySem.W.codeIn K cd19 "Join.pair" = true)
    (k19 : PySem.W.keepIn K (.ref f19) = true)
    (a20 : PySem.W.findIn K (.ref CJ) "meet_all" = some (some (.ref f20)))
    (i20 : PySem.W.isFn K (.ref f20) = true)
    (l20 : K.lookup f20 = some ⟨oc20, od20, .func (PySem.W.fnOf "meet_all" "Join.meet_all" (defArgs (sJoin 2)) (defBody (sJoin 2)) (defScope (sJoin 2)) .none kV20 dc20 pm20 an20 cd20 ct20), sl20⟩)
    (c20 : PySem.W.codeIn K cd20 "Join.meet_all" = true)
    (k20 : PySem.W.keepIn K (.ref f20) = true)
    (a21 : PySem.W.findIn K (.ref CJ) "come_to_meet" = some (some (.ref f21)))
    (i21 : PySem.W.isFn K (.ref f21) = true)
    (l21 : K.lookup f21 = some ⟨oc21, od21, .func (PySem.W.fnOf "come_to_meet" "Join.come_to_meet" (defArgs (sJoin 3)) (defBody (sJoin 3)) (defScope (sJoin 3)) .none kV21 dc21 pm21 an21 cd21 ct21), sl21⟩)
    (c21 : PySem.W.codeIn K cd21 "Join.come_to_meet" = true)
    (k21 : PySem.W.keepIn K (.ref f21) = true)
    (a22 : PySem.W.findIn K (.ref CJ) "told_at" = some (some (.ref f22)))
    (i22 : PySem.W.isFn K (.ref f22) = true)
    (l22 : K.lookup f22 = some ⟨oc22, od22, .func (PySem.W.fnOf "told_at" "Join.told_at" (defArgs (sJoin 4)) (defBody (sJoin 4)) (defScope (sJoin 4)) .none kV22 dc22 pm22 an22 cd22 ct22), sl22⟩)
    (c22 : PySem.W.codeIn K cd22 "Join.told_at" = true)
    (k22 : PySem.W.keepIn K (.ref f22) = true)
    (a23 : PySem.W.findIn K (.ref CJ) "come_at_moment" = some (some (.ref f23)))
    (i23 : PySem.W.isFn K (.ref f23) = true)
    (l23 : K.lookup f23 = some ⟨oc23, od23, .func (PySem.W.fnOf "come_at_moment" "Join.come_at_moment" (defArgs (sJoin 5)) (defBody (sJoin 5)) (defScope (sJoin 5)) .none kV23 dc23 pm23 an23 cd23 ct23), sl23⟩)
    (c23 : PySem.W.codeIn K cd23 "Join.come_at_moment" = true)
    (k23 : PySem.W.keepIn K (.ref f23) = true)
    (a24 : PySem.W.findIn K (.ref CJ) "come" = some (some (.ref f24)))
    (i24 : PySem.W.isFn K (.ref f24) = true)
    (l24 : K.lookup f24 = some ⟨oc24, od24, .func (PySem.W.fnOf "come" "Join.come" (defArgs (sJoin 6)) (defBody (sJoin 6)) (defScope (sJoin 6)) .none kV24 dc24 pm24 an24 cd24 ct24), sl24⟩)
    (c24 : PySem.W.codeIn K cd24 "Join.come" = true)
    (k24 : PySem.W.keepIn K (.ref f24) = true)
    (a25 : PySem.W.findIn K (.ref CJ) "go_of" = some (some (.ref f25)))
    (i25 : PySem.W.isFn K (.ref f25) = true)
    (l25 : K.lookup f25 = some ⟨oc25, od25, .func (PySem.W.fnOf "go_of" "Join.go_of" (defArgs (sJoin 7)) (defBody (sJoin 7)) (defScope (sJoin 7)) .none kV25 dc25 pm25 an25 cd25 ct25), sl25⟩)
    (c25 : PySem.W.codeIn K cd25 "Join.go_of" = true)
    (k25 : PySem.W.keepIn K (.ref f25) = true)
    (a26 : PySem.W.findIn K (.ref CJ) "end_waiting" = some (some (.ref f26)))
    (i26 : PySem.W.isFn K (.ref f26) = true)
    (l26 : K.lookup f26 = some ⟨oc26, od26, .func (PySem.W.fnOf "end_waiting" "Join.end_waiting" (defArgs (sJoin 8)) (defBody (sJoin 8)) (defScope (sJoin 8)) .none kV26 dc26 pm26 an26 cd26 ct26), sl26⟩)
    (c26 : PySem.W.codeIn K cd26 "Join.end_waiting" = true)
    (k26 : PySem.W.keepIn K (.ref f26) = true)
    (a27 : PySem.W.findIn K (.ref CJ) "raise_mark" = some (some (.ref f27)))
    (i27 : PySem.W.isFn K (.ref f27) = true)
    (l27 : K.lookup f27 = some ⟨oc27, od27, .func (PySem.W.fnOf "raise_mark" "Join.raise_mark" (defArgs (sJoin 9)) (defBody (sJoin 9)) (defScope (sJoin 9)) .none kV27 dc27 pm27 an27 cd27 ct27), sl27⟩)
    (c27 : PySem.W.codeIn K cd27 "Join.raise_mark" = true)
    (k27 : PySem.W.keepIn K (.ref f27) = true)
    (a28 : PySem.W.findIn K (.ref CJ) "show" = some (some (.ref f28)))
    (i28 : PySem.W.isFn K (.ref f28) = true)
    (l28 : K.lookup f28 = some ⟨oc28, od28, .func (PySem.W.fnOf "show" "Join.show" (defArgs (sJoin 10)) (defBody (sJoin 10)) (defScope (sJoin 10)) .none kV28 dc28 pm28 an28 cd28 ct28), sl28⟩)
    (c28 : PySem.W.codeIn K cd28 "Join.show" = true)
    (k28 : PySem.W.keepIn K (.ref f28) = true)
    (a29 : PySem.W.findIn K (.ref CJ) "counts" = some (some (.ref f29)))
    (i29 : PySem.W.isFn K (.ref f29) = true)
    (l29 : K.lookup f29 = some ⟨oc29, od29, .func (PySem.W.fnOf "counts" "Join.counts" (defArgs (sJoin 11)) (defBody (sJoin 11)) (defScope (sJoin 11)) .none kV29 dc29 pm29 an29 cd29 ct29), sl29⟩)
    (c29 : PySem.W.codeIn K cd29 "Join.counts" = true)
    (k29 : PySem.W.keepIn K (.ref f29) = true)
    (a30 : PySem.W.findIn K (.ref CJ) "at" = some (some (.ref f30)))
    (i30 : PySem.W.isFn K (.ref f30) = true)
    (l30 : K.lookup f30 = some ⟨oc30, od30, .func (PySem.W.fnOf "at" "Join.at" (defArgs (sJoin 12)) (defBody (sJoin 12)) (defScope (sJoin 12)) .none kV30 dc30 pm30 an30 cd30 ct30), sl30⟩)
    (c30 : PySem.W.codeIn K cd30 "Join.at" = true)
    (k30 : PySem.W.keepIn K (.ref f30) = true)
    (nTerms : PySem.W.findIn K (.ref CJ) "terms" = some none)
    (nMarks : PySem.W.findIn K (.ref CJ) "marks" = some none)
    (nTaken : PySem.W.findIn K (.ref CJ) "taken" = some none)
    (nKept : PySem.W.findIn K (.ref CJ) "kept" = some none)
    (nAside : PySem.W.findIn K (.ref CJ) "aside" = some none)
    (nVersions : PySem.W.findIn K (.ref CJ) "versions" = some none)
    (aCT : PySem.W.nsIn K mainGlobals "Terms" = some (some (.ref CT)))
    (pgT : PySem.W.plainGet K CT Str.empty = true)
    (hdT : PySem.W.hasDictIn K CT = true)
    (poT : PySem.W.plainOver K CT = true)
    (saT : PySem.W.findIn K (.ref CT) "__setattr__" = some (some (.builtin "object.__setattr__")))
    (mkT : PySem.W.makesIn K CT = true)
    (kcT : PySem.W.keepIn K (.ref CT) = true)
    (a31 : PySem.W.findIn K (.ref CT) "__init__" = some (some (.ref f31)))
    (i31 : PySem.W.isFn K (.ref f31) = true)
    (l31 : K.lookup f31 = some ⟨oc31, od31, .func (PySem.W.fnOf "__init__" "Terms.__init__" (defArgs (sTerms 0)) (defBody (sTerms 0)) (defScope (sTerms 0)) .none kV31 dc31 pm31 an31 cd31 ct31), sl31⟩)
    (c31 : PySem.W.codeIn K cd31 "Terms.__init__" = true)
    (k31 : PySem.W.keepIn K (.ref f31) = true)
    (a32 : PySem.W.findIn K (.ref CT) "is_moment" = some (some (.ref f32)))
    (i32 : PySem.W.isFn K (.ref f32) = true)
    (l32 : K.lookup f32 = some ⟨oc32, od32, .func (PySem.W.fnOf "is_moment" "Terms.is_moment" (defArgs (sTerms 1)) (defBody (sTerms 1)) (defScope (sTerms 1)) .none kV32 dc32 pm32 an32 cd32 ct32), sl32⟩)
    (c32 : PySem.W.codeIn K cd32 "Terms.is_moment" = true)
    (k32 : PySem.W.keepIn K (.ref f32) = true)
    (a33 : PySem.W.findIn K (.ref CT) "tells_alone" = some (some (.ref f33)))
    (i33 : PySem.W.isFn K (.ref f33) = true)
    (l33 : K.lookup f33 = some ⟨oc33, od33, .func (PySem.W.fnOf "tells_alone" "Terms.tells_alone" (defArgs (sTerms 2)) (defBody (sTerms 2)) (defScope (sTerms 2)) .none kV33 dc33 pm33 an33 cd33 ct33), sl33⟩)
    (c33 : PySem.W.codeIn K cd33 "Terms.tells_alone" = true)
    (k33 : PySem.W.keepIn K (.ref f33) = true)
    (a34 : PySem.W.findIn K (.ref CT) "tells_at_once" = some (some (.ref f34)))
    (i34 : PySem.W.isFn K (.ref f34) = true)
    (l34 : K.lookup f34 = some ⟨oc34, od34, .func (PySem.W.fnOf "tells_at_once" "Terms.tells_at_once" (defArgs (sTerms 3)) (defBody (sTerms 3)) (defScope (sTerms 3)) .none kV34 dc34 pm34 an34 cd34 ct34), sl34⟩)
    (c34 : PySem.W.codeIn K cd34 "Terms.tells_at_once" = true)
    (k34 : PySem.W.keepIn K (.ref f34) = true)
    (a35 : PySem.W.findIn K (.ref CT) "tells_late" = some (some (.ref f35)))
    (i35 : PySem.W.isFn K (.ref f35) = true)
    (l35 : K.lookup f35 = some ⟨oc35, od35, .func (PySem.W.fnOf "tells_late" "Terms.tells_late" (defArgs (sTerms 4)) (defBody (sTerms 4)) (defScope (sTerms 4)) .none kV35 dc35 pm35 an35 cd35 ct35), sl35⟩)
    (c35 : PySem.W.codeIn K cd35 "Terms.tells_late" = true)
    (k35 : PySem.W.keepIn K (.ref f35) = true)
    (a36 : PySem.W.findIn K (.ref CT) "meet" = some (some (.ref f36)))
    (i36 : PySem.W.isFn K (.ref f36) = true)
    (l36 : K.lookup f36 = some ⟨oc36, od36, .func (PySem.W.fnOf "meet" "Terms.meet" (defArgs (sTerms 5)) (defBody (sTerms 5)) (defScope (sTerms 5)) .none kV36 dc36 pm36 an36 cd36 ct36), sl36⟩)
    (c36 : PySem.W.codeIn K cd36 "Terms.meet" = true)
    (k36 : PySem.W.keepIn K (.ref f36) = true)
    (a37 : PySem.W.findIn K (.ref CT) "is_wanted" = some (some (.ref f37)))
    (i37 : PySem.W.isFn K (.ref f37) = true)
    (l37 : K.lookup f37 = some ⟨oc37, od37, .func (PySem.W.fnOf "is_wanted" "Terms.is_wanted" (defArgs (sTerms 6)) (defBody (sTerms 6)) (defScope (sTerms 6)) .none kV37 dc37 pm37 an37 cd37 ct37), sl37⟩)
    (c37 : PySem.W.codeIn K cd37 "Terms.is_wanted" = true)
    (k37 : PySem.W.keepIn K (.ref f37) = true)
    (nKind : PySem.W.findIn K (.ref CT) "kind" = some none)
    (nAhead : PySem.W.findIn K (.ref CT) "ahead" = some none)
    (nAfter : PySem.W.findIn K (.ref CT) "after" = some none)
    (nEager : PySem.W.findIn K (.ref CT) "eager" = some none)
    (aCL : PySem.W.nsIn K mainGlobals "Line" = some (some (.ref CL)))
    (pgL : PySem.W.plainGet K CL Str.empty = true)
    (hdL : PySem.W.hasDictIn K CL = true)
    (poL : PySem.W.plainOver K CL = true)
    (saL : PySem.W.findIn K (.ref CL) "__setattr__" = some (some (.builtin "object.__setattr__")))
    (mkL : PySem.W.makesIn K CL = true)
    (kcL : PySem.W.keepIn K (.ref CL) = true)
    (a38 : PySem.W.findIn K (.ref CL) "__init__" = some (some (.ref f38)))
    (i38 : PySem.W.isFn K (.ref f38) = true)
    (l38 : K.lookup f38 = some ⟨oc38, od38, .func (PySem.W.fnOf "__init__" "Line.__init__" (defArgs (sLine 0)) (defBody (sLine 0)) (defScope (sLine 0)) .none kV38 dc38 pm38 an38 cd38 ct38), sl38⟩)
    (c38 : PySem.W.codeIn K cd38 "Line.__init__" = true)
    (k38 : PySem.W.keepIn K (.ref f38) = true)
    (a39 : PySem.W.findIn K (.ref CL) "answer" = some (some (.ref f39)))
    (i39 : PySem.W.isFn K (.ref f39) = true)
    (l39 : K.lookup f39 = some ⟨oc39, od39, .func (PySem.W.fnOf "answer" "Line.answer" (defArgs (sLine 1)) (defBody (sLine 1)) (defScope (sLine 1)) .none kV39 dc39 pm39 an39 cd39 ct39), sl39⟩)
    (c39 : PySem.W.codeIn K cd39 "Line.answer" = true)
    (k39 : PySem.W.keepIn K (.ref f39) = true)
    (a40 : PySem.W.findIn K (.ref CL) "answer_all" = some (some (.ref f40)))
    (i40 : PySem.W.isFn K (.ref f40) = true)
    (l40 : K.lookup f40 = some ⟨oc40, od40, .func (PySem.W.fnOf "answer_all" "Line.answer_all" (defArgs (sLine 2)) (defBody (sLine 2)) (defScope (sLine 2)) .none kV40 dc40 pm40 an40 cd40 ct40), sl40⟩)
    (c40 : PySem.W.codeIn K cd40 "Line.answer_all" = true)
    (k40 : PySem.W.keepIn K (.ref f40) = true)
    (nJoin : PySem.W.findIn K (.ref CL) "join" = some none)
    (zNO_SORT : PySem.W.nsIn K mainGlobals "NO_SORT" = some (some (.int (-1) tNO_SORT)))
    (zBEYOND : PySem.W.nsIn K mainGlobals "BEYOND" = some (some (.int (-2) tBEYOND)))
    (zNOT_GRANTED : PySem.W.nsIn K mainGlobals "NOT_GRANTED" = some (some (.int (-3) tNOT_GRANTED)))
    (zOTHER_SORT : PySem.W.nsIn K mainGlobals "OTHER_SORT" = some (some (.int (-4) tOTHER_SORT)))
    (zGONE_BY : PySem.W.nsIn K mainGlobals "GONE_BY" = some (some (.int (-5) tGONE_BY)))
    (zLEFT : PySem.W.nsIn K mainGlobals "LEFT" = some (some (.int 0 tLEFT)))
    (zRIGHT : PySem.W.nsIn K mainGlobals "RIGHT" = some (some (.int 1 tRIGHT)))
    (zTOLD : PySem.W.nsIn K mainGlobals "TOLD" = some (some (.int 1 tTOLD)))
    (zTAKEN_BACK : PySem.W.nsIn K mainGlobals "TAKEN_BACK" = some (some (.int 0 tTAKEN_BACK)))
    (zMOST_TIME : PySem.W.nsIn K mainGlobals "MOST_TIME" = some (some (.int 1000000 tMOST_TIME)))
    (zMOMENT : PySem.W.nsIn K mainGlobals "MOMENT" = some (some (.int 3 tMOMENT)))
    (zMOST_FAR : PySem.W.nsIn K mainGlobals "MOST_FAR" = some (some (.int 100000 tMOST_FAR)))
    (zBEGIN : PySem.W.nsIn K mainGlobals "BEGIN" = some (some (.int 0 tBEGIN)))
    (bInt : PySem.W.nsIn K mainGlobals "int" = some none)
    (bLen : PySem.W.nsIn K mainGlobals "len" = some none)
    (bMin : PySem.W.nsIn K mainGlobals "min" = some none)
    (bMax : PySem.W.nsIn K mainGlobals "max" = some none)
    (bAny : PySem.W.nsIn K mainGlobals "any" = some none)
    (bSorted : PySem.W.nsIn K mainGlobals "sorted" = some none)
    (aT : PySem.W.nsIn K mainGlobals "TOLD_ALONE" = some (some (.ref bT)))
    (aB : PySem.W.nsIn K mainGlobals "BELONG" = some (some (.ref bB)))
    (lT : K.lookup bT = some ⟨.type "tuple", odT, .seq #[.ref b0, .ref b1, .ref b2, .ref b3] eT, slT⟩)
    (lT0 : K.lookup b0 = some ⟨.type "tuple", odT0, .seq #[] eT0, slT0⟩)
    (lT1 : K.lookup b1 = some ⟨.type "tuple", odT1, .seq #[.int 0 u1] eT1, slT1⟩)
    (lT2 : K.lookup b2 = some ⟨.type "tuple", odT2, .seq #[.int 0 u2, .int 1 u3] eT2, slT2⟩)
    (lT3 : K.lookup b3 = some ⟨.type "tuple", odT3, .seq #[] eT3, slT3⟩)
    (lB : K.lookup bB = some ⟨.type "tuple", odB, .seq #[.int 4 w0, .int 2 w1, .int 2 w2, .int 1 w3, .int 1 w4, .int 0 w5, .int 0 w6, .int 0 w7, .int 2 w8] eB, slB⟩)
    (rC : PySem.W.nsIn K mainGlobals "Refused" = some (some (.ref CF)))
    (rL : K.lookup CF = some (excClassObj rnm rq CF rN rbs [.type "ValueError", .type "Exception", .type "BaseException", .type "object"] true rsn rsub rab rcol rdd m0 m1 m2 m3 m5 "ValueError.__new__"))
    (rsa : PySem.W.findIn K (.ref CF) "__setattr__" = some (some (.builtin "object.__setattr__")))
    (rga : PySem.W.findIn K (.ref CF) "__getattribute__" = some (some (.builtin "BaseException.__getattribute__")))
    (rgg : PySem.W.findIn K (.ref CF) "__getattr__" = some none)
    (rnb : PySem.W.findIn K (.ref CF) "told" = some none)
    (ra : PySem.W.findIn K (.ref CF) "__init__" = some (some (.ref fI)))
    (rt : PySem.W.typeIn K (.ref fI) = some (.type "function"))
    (rl : K.lookup fI = some ⟨oc0, od0, .func (PySem.W.fnOf "__init__" "Refused.__init__" (defArgs sLow) (defBody sLow) (defScope sLow) .none .none dc0 pm0 an0 cd0 ct0), sl0⟩)
    (rc : PySem.W.codeIn K cd0 "Refused.__init__" = true)
    (rkC : PySem.W.keepIn K (.ref CF) = true)
    (reC : PySem.W.subIn K (.ref CF) (.type "BaseException") = some true)
    (rtC : PySem.W.typeIn K (.ref CF) = some (.type "type"))
    (rhC : PySem.W.hasDictIn K CF = true)
    (riC : PySem.W.isClsIn K CF = true)
    (rsC : PySem.W.subIn K (.ref CF) (.ref CF) = some true)
    : ∃ fd : FuncData, (∀ (s : Shared) (us : List Value), us.length = (["calls"] : List Str).length → BindsTo s fd ⟨us, []⟩ ((["calls"] : List Str).zip us)) ∧ ∀ base : Heap, K.In base → base.Ns mainGlobals mg → FnOk P w K mg base CX0 27 fa fd ["calls"] (spAns K) := by
  have e := hfa.symm.trans (PySem.W.mg_of X G a15)
  cases e
  have T : Txt K mg ⟨CR, CJ, CT, CL, CF, fI⟩ :=
    { dAsk := ⟨⟨_, _, fun_mk (st := sAsk) l1 c1 k1, PySem.W.mg_of X G a1⟩⟩,
      dOther := ⟨⟨_, _, fun_mk (st := sOther) l2 c2 k2, PySem.W.mg_of X G a2⟩⟩,
      dAlone := ⟨⟨_, _, fun_mk (st := sAlone) l3 c3 k3, PySem.W.mg_of X G a3⟩⟩,
      dChanges := ⟨⟨_, _, fun_mk (st := sChanges) l4 c4 k4, PySem.W.mg_of X G a4⟩⟩,
      dRows := ⟨⟨_, _, fun_mk (st := sRows) l5 c5 k5, PySem.W.mg_of X G a5⟩⟩,
      dNewer := ⟨⟨_, _, fun_mk (st := sNewer) l6 c6 k6, PySem.W.mg_of X G a6⟩⟩,
      dHolding := ⟨⟨_, _, fun_mk (st := sHolding) l7 c7 k7, PySem.W.mg_of X G a7⟩⟩,
      dEnd := ⟨⟨_, _, fun_mk (st := sEnd) l8 c8 k8, PySem.W.mg_of X G a8⟩⟩,
      dAsked := ⟨⟨_, _, fun_mk (st := sAsked) l9 c9 k9, PySem.W.mg_of X G a9⟩⟩,
      dKept := ⟨⟨_, _, fun_mk (st := sKept) l10 c10 k10, PySem.W.mg_of X G a10⟩⟩,
      dTurn := ⟨⟨_, _, fun_mk (st := sTurn) l11 c11 k11, PySem.W.mg_of X G a11⟩⟩,
      dNew := ⟨⟨_, _, fun_mk (st := sNew) l12 c12 k12, PySem.W.mg_of X G a12⟩⟩,
      dRead := ⟨⟨_, _, fun_mk (st := sRead) l13 c13 k13, PySem.W.mg_of X G a13⟩⟩,
      dToldBy := ⟨⟨_, _, fun_mk (st := sToldBy) l14 c14 k14, PySem.W.mg_of X G a14⟩⟩,
      clR := ⟨pgR, hdR, poR, saR⟩,
      iRow := ⟨⟨_, _, fun_mk (st := sRowI) l16 c16 k16, ⟨mkR, a16, i16, kcR⟩, PySem.W.mg_of X G aCR⟩⟩,
      mShown := ⟨⟨_, _, fun_mk (st := sShown) l17 c17 k17, ⟨a17, i17, k17⟩⟩⟩,
      nNumber := nNumber,
      nKey := nKey,
      nTime := nTime,
      nMet := nMet,
      clJ := ⟨pgJ, hdJ, poJ, saJ⟩,
      iJoin := ⟨⟨_, _, fun_mk (st := sJoin 0) l18 c18 k18, ⟨mkJ, a18, i18, kcJ⟩, PySem.W.mg_of X G aCJ⟩⟩,
      mPair := ⟨⟨_, _, fun_mk (st := sJoin 1) l19 c19 k19, ⟨a19, i19, k19⟩⟩⟩,
      mMeetAll := ⟨⟨_, _, fun_mk (st := sJoin 2) l20 c20 k20, ⟨a20, i20, k20⟩⟩⟩,
      mComeMeet := ⟨⟨_, _, fun_mk (st := sJoin 3) l21 c21 k21, ⟨a21, i21, k21⟩⟩⟩,
      mToldAt := ⟨⟨_, _, fun_mk (st := sJoin 4) l22 c22 k22, ⟨a22, i22, k22⟩⟩⟩,
      mMoment := ⟨⟨_, _, fun_mk (st := sJoin 5) l23 c23 k23, ⟨a23, i23, k23⟩⟩⟩,
      mCome := ⟨⟨_, _, fun_mk (st := sJoin 6) l24 c24 k24, ⟨a24, i24, k24⟩⟩⟩,
      mGoOf := ⟨⟨_, _, fun_mk (st := sJoin 7) l25 c25 k25, ⟨a25, i25, k25⟩⟩⟩,
      mEndW := ⟨⟨_, _, fun_mk (st := sJoin 8) l26 c26 k26, ⟨a26, i26, k26⟩⟩⟩,
      mRaise := ⟨⟨_, _, fun_mk (st := sJoin 9) l27 c27 k27, ⟨a27, i27, k27⟩⟩⟩,
      mShow := ⟨⟨_, _, fun_mk (st := sJoin 10) l28 c28 k28, ⟨a28, i28, k28⟩⟩⟩,
      mCounts := ⟨⟨_, _, fun_mk (st := sJoin 11) l29 c29 k29, ⟨a29, i29, k29⟩⟩⟩,
      mAt := ⟨⟨_, _, fun_mk (st := sJoin 12) l30 c30 k30, ⟨a30, i30, k30⟩⟩⟩,
      nTerms := nTerms,
      nMarks := nMarks,
      nTaken := nTaken,
      nKept := nKept,
      nAside := nAside,
      nVersions := nVersions,
      clT := ⟨pgT, hdT, poT, saT⟩,
      iTerms := ⟨⟨_, _, fun_mk (st := sTerms 0) l31 c31 k31, ⟨mkT, a31, i31, kcT⟩, PySem.W.mg_of X G aCT⟩⟩,
      mIsMoment := ⟨⟨_, _, fun_mk (st := sTerms 1) l32 c32 k32, ⟨a32, i32, k32⟩⟩⟩,
      mTellsAlone := ⟨⟨_, _, fun_mk (st := sTerms 2) l33 c33 k33, ⟨a33, i33, k33⟩⟩⟩,
      mOnce := ⟨⟨_, _, fun_mk (st := sTerms 3) l34 c34 k34, ⟨a34, i34, k34⟩⟩⟩,
      mLate := ⟨⟨_, _, fun_mk (st := sTerms 4) l35 c35 k35, ⟨a35, i35, k35⟩⟩⟩,
      mMeet := ⟨⟨_, _, fun_mk (st := sTerms 5) l36 c36 k36, ⟨a36, i36, k36⟩⟩⟩,
      mWanted := ⟨⟨_, _, fun_mk (st := sTerms 6) l37 c37 k37, ⟨a37, i37, k37⟩⟩⟩,
      nKind := nKind,
      nAhead := nAhead,
      nAfter := nAfter,
      nEager := nEager,
      clL := ⟨pgL, hdL, poL, saL⟩,
      iLine := ⟨⟨_, _, fun_mk (st := sLine 0) l38 c38 k38, ⟨mkL, a38, i38, kcL⟩, PySem.W.mg_of X G aCL⟩⟩,
      mAnswer := ⟨⟨_, _, fun_mk (st := sLine 1) l39 c39 k39, ⟨a39, i39, k39⟩⟩⟩,
      mAnswerAll := ⟨⟨_, _, fun_mk (st := sLine 2) l40 c40 k40, ⟨a40, i40, k40⟩⟩⟩,
      nJoin := nJoin,
      NO_SORT := ⟨_, PySem.W.mg_of X G zNO_SORT⟩,
      BEYOND := ⟨_, PySem.W.mg_of X G zBEYOND⟩,
      NOT_GRANTED := ⟨_, PySem.W.mg_of X G zNOT_GRANTED⟩,
      OTHER_SORT := ⟨_, PySem.W.mg_of X G zOTHER_SORT⟩,
      GONE_BY := ⟨_, PySem.W.mg_of X G zGONE_BY⟩,
      LEFT := ⟨_, PySem.W.mg_of X G zLEFT⟩,
      RIGHT := ⟨_, PySem.W.mg_of X G zRIGHT⟩,
      TOLD := ⟨_, PySem.W.mg_of X G zTOLD⟩,
      TAKEN_BACK := ⟨_, PySem.W.mg_of X G zTAKEN_BACK⟩,
      MOST_TIME := ⟨_, PySem.W.mg_of X G zMOST_TIME⟩,
      MOMENT := ⟨_, PySem.W.mg_of X G zMOMENT⟩,
      MOST_FAR := ⟨_, PySem.W.mg_of X G zMOST_FAR⟩,
      BEGIN := ⟨_, PySem.W.mg_of X G zBEGIN⟩,
      bInt := PySem.W.mg_none_of X G bInt,
      bLen := PySem.W.mg_none_of X G bLen,
      bMin := PySem.W.mg_none_of X G bMin,
      bMax := PySem.W.mg_none_of X G bMax,
      bAny := PySem.W.mg_none_of X G bAny,
      bSorted := PySem.W.mg_none_of X G bSorted,
      tol := ⟨bT, b0, b1, b2, b3, PySem.W.mg_of X G aT, fun _ => ⟨.inr ⟨_, _, _, lT, rfl, rfl, (by show 4 ≤ sizeLine; decide), .cons rfl (.cons rfl (.cons rfl (.cons rfl (.nil))))⟩, .inr ⟨_, _, _, lT0, rfl, rfl, (by show 0 ≤ sizeLine; decide), .nil⟩, .inr ⟨_, _, _, lT1, rfl, rfl, (by show 1 ≤ sizeLine; decide), .cons ⟨_, rfl⟩ (.nil)⟩, .inr ⟨_, _, _, lT2, rfl, rfl, (by show 2 ≤ sizeLine; decide), .cons ⟨_, rfl⟩ (.cons ⟨_, rfl⟩ (.nil))⟩, .inr ⟨_, _, _, lT3, rfl, rfl, (by show 0 ≤ sizeLine; decide), .nil⟩⟩⟩,
      bel := ⟨bB, PySem.W.mg_of X G aB, fun _ => .inr ⟨_, _, _, lB, rfl, rfl, (by show 9 ≤ sizeLine; decide), .cons ⟨_, rfl⟩ (.cons ⟨_, rfl⟩ (.cons ⟨_, rfl⟩ (.cons ⟨_, rfl⟩ (.cons ⟨_, rfl⟩ (.cons ⟨_, rfl⟩ (.cons ⟨_, rfl⟩ (.cons ⟨_, rfl⟩ (.cons ⟨_, rfl⟩ (.nil)))))))))⟩⟩,
      low := { gC := PySem.W.mg_of X G rC, cls := ⟨rnm, rq, rN, rbs, _, rsn, rsub, rab, rcol, rdd, m0, m1, m2, m3, m5, rL, by decide +kernel⟩, sa := rsa, ga := rga, gg := rgg, noN := rnb, iC := ra, tC := rt, kC := rkC, exC := reC, tyC := rtC, hdC := rhC, te := exm_own reC riC rtC rsC, fn := ⟨_, _, _, _, _, _, _, _, _, _, _, _, _, _, rl, rc⟩ } }
  have F := fun_mk (st := sAns) l15 c15 k15
  exact ⟨_, fun s us hu => match us, hu with | [_], _ => .of_eq rfl, fun base _ _ => ok_ans F T⟩
end JW
open PySem PySem.W PyProof.Rows
set_option maxRecDepth 100000 in
set_option maxHeartbeats 0 in
theorem PySem.Challenge.cw_joinedstreams_s01_answers_holds : PySem.Challenge.rw_joinedstreams_s01_answers.Holds := by
  w_on; k_headS; (case hw => exact ⟨[.list [.int 5]], by decide +kernel, by decide +kernel⟩)
  k_fillS
  refine L2.walk_specK (r := PySem.Challenge.rw_joinedstreams_s01_answers) (k := 27) (CX := L2.CX0) (ps := ["calls"]) (sp := JW.spAns) (by decide +kernel) rfl rfl ⟨rfl, by decide, by decide⟩ (fun w h Y => PySem.W.kIn_of Y) ?F ?S (fun _ _ _ _ z => z)
  case F =>
    intro w mg fa h Y KX G hmg
    refine' JW.all_mk KX G hmg ?a1 ?l1 ?c1 ?k1 ?a2 ?l2 ?c2 ?k2 ?a3 ?l3 ?c3 ?k3 ?a4 ?l4 ?c4 ?k4 ?a5 ?l5 ?c5 ?k5 ?a6 ?l6 ?c6 ?k6 ?a7 ?l7 ?c7 ?k7 ?a8 ?l8 ?c8 ?k8 ?a9 ?l9 ?c9 ?k9 ?a10 ?l10 ?c10 ?k10 ?a11 ?l11 ?c11 ?k11 ?a12 ?l12 ?c12 ?k12 ?a13 ?l13 ?c13 ?k13 ?a14 ?l14 ?c14 ?k14 ?a15 ?l15 ?c15 ?k15 ?aCR ?pgR ?hdR ?poR ?saR ?mkR ?kcR ?a16 ?i16 ?l16 ?c16 ?k16 ?a17 ?i17 ?l17 ?c17 ?k17 ?nNumber ?nKey ?nTime ?nMet ?aCJ ?pgJ ?hdJ ?poJ ?saJ ?mkJ ?kcJ ?a18 ?i18 ?l18 ?c18 ?k18 ?a19 ?i19 ?l19 ?c19 ?k19 ?a20 ?i20 ?l20 ?c20 ?k20 ?a21 ?i21 ?l21 ?c21 ?k21 ?a22 ?i22 ?l22 ?c22 ?k22 ?a23 ?i23 ?l23 ?c23 ?k23 ?a24 ?i24 ?l24 ?c24 ?k24 ?a25 ?i25 ?l25 ?c25 ?k25 ?a26 ?i26 ?l26 ?c26 ?k26 ?a27 ?i27 ?l27 ?c27 ?k27 ?a28 ?i28 ?l28 ?c28 ?k28 ?a29 ?i29 ?l29 ?c29 ?k29 ?a30 ?i30 ?l30 ?c30 ?k30 ?nTerms ?nMarks ?nTaken ?nKept ?nAside ?nVersions ?aCT ?pgT ?hdT ?poT ?saT ?mkT ?kcT ?a31 ?i31 ?l31 ?c31 ?k31 ?a32 ?i32 ?l32 ?c32 ?k32 ?a33 ?i33 ?l33 ?c33 ?k33 ?a34 ?i34 ?l34 ?c34 ?k34 ?a35 ?i35 ?l35 ?c35 ?k35 ?a36 ?i36 ?l36 ?c36 ?k36 ?a37 ?i37 ?l37 ?c37 ?k37 ?nKind ?nAhead ?nAfter ?nEager ?aCL ?pgL ?hdL ?poL ?saL ?mkL ?kcL ?a38 ?i38 ?l38 ?c38 ?k38 ?a39 ?i39 ?l39 ?c39 ?k39 ?a40 ?i40 ?l40 ?c40 ?k40 ?nJoin ?zNO_SORT ?zBEYOND ?zNOT_GRANTED ?zOTHER_SORT ?zGONE_BY ?zLEFT ?zRIGHT ?zTOLD ?zTAKEN_BACK ?zMOST_TIME ?zMOMENT ?zMOST_FAR ?zBEGIN ?bInt ?bLen ?bMin ?bMax ?bAny ?bSorted ?aT ?aB ?lT ?lT0 ?lT1 ?lT2 ?lT3 ?lB ?rC ?rL ?rsa ?rga ?rgg ?rnb ?ra ?rt ?rl ?rc ?rkC ?reC ?rtC ?rhC ?riC ?rsC
    (case a1 => k_is)
    (case l1 => k_is)
    (case c1 => k_is)
    (case k1 => k_is)
    (case a2 => k_is)
    (case l2 => k_is)
    (case c2 => k_is)
    (case k2 => k_is)
    (case a3 => k_is)
    (case l3 => k_is)
    (case c3 => k_is)
    (case k3 => k_is)
    (case a4 => k_is)
    (case l4 => k_is)
    (case c4 => k_is)
    (case k4 => k_is)
    (case a5 => k_is)
    (case l5 => k_is)
    (case c5 => k_is)
    (case k5 => k_is)
    (case a6 => k_is)
    (case l6 => k_is)
    (case c6 => k_is)
    (case k6 => k_is)
    (case a7 => k_is)
    (case l7 => k_is)
    (case c7 => k_is)
    (case k7 => k_is)
    (case a8 => k_is)
    (case l8 => k_is)
    (case c8 => k_is)
    (case k8 => k_is)
    (case a9 => k_is)
    (case l9 => k_is)
    (case c9 => k_is)
    (case k9 => k_is)
    (case a10 => k_is)
    (case l10 => k_is)
    (case c10 => k_is)
    (case k10 => k_is)
    (case a11 => k_is)
    (case l11 => k_is)
    (case c11 => k_is)
    (case k11 => k_is)
    (case a12 => k_is)
    (case l12 => k_is)
    (case c12 => k_is)
    (case k12 => k_is)
    (case a13 => k_is)
    (case l13 => k_is)
    (case c13 => k_is)
    (case k13 => k_is)
    (case a14 => k_is)
    (case l14 => k_is)
    (case c14 => k_is)
    (case k14 => k_is)
    (case a15 => k_is)
    (case l15 => k_is)
    (case c15 => k_is)
    (case k15 => k_is)
    (case aCR => k_is)
    (case pgR => k_is)
    (case hdR => k_is)
    (case poR => k_is)
    (case saR => k_is)
    (case mkR => k_is)
    (case kcR => k_is)
    (case a16 => k_is)
    (case i16 => k_is)
    (case l16 => k_is)
    (case c16 => k_is)
    (case k16 => k_is)
    (case a17 => k_is)
    (case i17 => k_is)
    (case l17 => k_is)
    (case c17 => k_is)
    (case k17 => k_is)
    (case nNumber => k_is)
    (case nKey => k_is)
    (case nTime => k_is)
    (case nMet => k_is)
    (case aCJ => k_is)
    (case pgJ => k_is)
    (case hdJ => k_is)
    (case poJ => k_is)
    (case saJ => k_is)
    (case mkJ => k_is)
    (case kcJ => k_is)
    (case a18 => k_is)
    (case i18 => k_is)
    (case l18 => k_is)
    (case c18 => k_is)
    (case k18 => k_is)
    (case a19 => k_is)
    (case i19 => k_is)
    (case l19 => k_is)
    (case c19 => k_is)
    (case k19 => k_is)
    (case a20 => k_is)
    (case i20 => k_is)
    (case l20 => k_is)
    (case c20 => k_is)
    (case k20 => k_is)
    (case a21 => k_is)
    (case i21 => k_is)
    (case l21 => k_is)
    (case c21 => k_is)
    (case k21 => k_is)
    (case a22 => k_is)
    (case i22 => k_is)
    (case l22 => k_is)
    (case c22 => k_is)
    (case k22 => k_is)
    (case a23 => k_is)
    (case i23 => k_is)
    (case l23 => k_is)
    (case c23 => k_is)
    (case k23 => k_is)
    (case a24 => k_is)
    (case i24 => k_is)
    (case l24 => k_is)
    (case c24 => k_is)
    (case k24 => k_is)
    (case a25 => k_is)
    (case i25 => k_is)
    (case l25 => k_is)
    (case c25 => k_is)
    (case k25 => k_is)
    (case a26 => k_is)
    (case i26 => k_is)
    (case l26 => k_is)
    (case c26 => k_is)
    (case k26 => k_is)
    (case a27 => k_is)
    (case i27 => k_is)
    (case l27 => k_is)
    (case c27 => k_is)
    (case k27 => k_is)
    (case a28 => k_is)
    (case i28 => k_is)
    (case l28 => k_is)
    (case c28 => k_is)
    (case k28 => k_is)
    (case a29 => k_is)
    (case i29 => k_is)
    (case l29 => k_is)
    (case c29 => k_is)
    (case k29 => k_is)
    (case a30 => k_is)
    (case i30 => k_is)
    (case l30 => k_is)
    (case c30 => k_is)
    (case k30 => k_is)
    (case nTerms => k_is)
    (case nMarks => k_is)
    (case nTaken => k_is)
    (case nKept => k_is)
    (case nAside => k_is)
    (case nVersions => k_is)
    (case aCT => k_is)
    (case pgT => k_is)
    (case hdT => k_is)
    (case poT => k_is)
    (case saT => k_is)
    (case mkT => k_is)
    (case kcT => k_is)
    (case a31 => k_is)
    (case i31 => k_is)
    (case l31 => k_is)
    (case c31 => k_is)
    (case k31 => k_is)
    (case a32 => k_is)
    (case i32 => k_is)
    (case l32 => k_is)
    (case c32 => k_is)
    (case k32 => k_is)
    (case a33 => k_is)
    (case i33 => k_is)
    (case l33 => k_is)
    (case c33 => k_is)
    (case k33 => k_is)
    (case a34 => k_is)
    (case i34 => k_is)
    (case l34 => k_is)
    (case c34 => k_is)
    (case k34 => k_is)
    (case a35 => k_is)
    (case i35 => k_is)
    (case l35 => k_is)
    (case c35 => k_is)
    (case k35 => k_is)
    (case a36 => k_is)
    (case i36 => k_is)
    (case l36 => k_is)
    (case c36 => k_is)
    (case k36 => k_is)
    (case a37 => k_is)
    (case i37 => k_is)
    (case l37 => k_is)
    (case c37 => k_is)
    (case k37 => k_is)
    (case nKind => k_is)
    (case nAhead => k_is)
    (case nAfter => k_is)
    (case nEager => k_is)
    (case aCL => k_is)
    (case pgL => k_is)
    (case hdL => k_is)
    (case poL => k_is)
    (case saL => k_is)
    (case mkL => k_is)
    (case kcL => k_is)
    (case a38 => k_is)
    (case i38 => k_is)
    (case l38 => k_is)
    (case c38 => k_is)
    (case k38 => k_is)
    (case a39 => k_is)
    (case i39 => k_is)
    (case l39 => k_is)
    (case c39 => k_is)
    (case k39 => k_is)
    (case a40 => k_is)
    (case i40 => k_is)
    (case l40 => k_is)
    (case c40 => k_is)
    (case k40 => k_is)
    (case nJoin => k_is)
    (case zNO_SORT => k_is)
    (case zBEYOND => k_is)
    (case zNOT_GRANTED => k_is)
    (case zOTHER_SORT => k_is)
    (case zGONE_BY => k_is)
    (case zLEFT => k_is)
    (case zRIGHT => k_is)
    (case zTOLD => k_is)
    (case zTAKEN_BACK => k_is)
    (case zMOST_TIME => k_is)
    (case zMOMENT => k_is)
    (case zMOST_FAR => k_is)
    (case zBEGIN => k_is)
    (case bInt => k_is)
    (case bLen => k_is)
    (case bMin => k_is)
    (case bMax => k_is)
    (case bAny => k_is)
    (case bSorted => k_is)
    (case aT => k_is)
    (case aB => k_is)
    (case lT => k_is)
    (case lT0 => k_is)
    (case lT1 => k_is)
    (case lT2 => k_is)
    (case lT3 => k_is)
    (case lB => k_is)
    (case rC => k_is)
    (case rL => k_is)
    (case rsa => k_is)
    (case rga => k_is)
    (case rgg => k_is)
    (case rnb => k_is)
    (case ra => k_is)
    (case rt => k_is)
    (case rl => k_is)
    (case rc => k_is)
    (case rkC => k_is)
    (case reC => k_is)
    (case rtC => k_is)
    (case rhC => k_is)
    (case riC => k_is)
    (case rsC => first | rfl | k_is)
  case S =>
    intro K H xs a hO hwi hask hx
    cases hx with
    | cons h1 h2 =>
      cases h2
      cases h1 with
      | lst hs ha =>
        have e := L2.ints_dw a.1 _ ha
        subst e
        exact ⟨_, a.1, rfl, hs, hask, fun H' p hp => .lst (L2.SqL.of hp) (L2.dw_ints _)⟩
