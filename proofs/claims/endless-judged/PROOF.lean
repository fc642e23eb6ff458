import PyProof.Rows.All
import Wide.All
import OpenK.AllK
import Wide.FinOn
import HandS.ForMost
import HandS.Flow
import HandS.Zip
import HandS.TupAny
import HandS.DictComp
import HandS.Defaults
import HandS.Conv
import KE.KDictKeyed
import KE.KDictItemsList
import KE.SortData
import HandS.Steps
import KE.GoesEnum
import HandS.Style
import HandS.Ends
import PySem.Challenge.RW_pilereach_k93_whole_endless_is_judged
set_option Elab.async false
section
set_option autoImplicit false
/-! Plain mathematics: machines, the judge's functions, and that no two papers of opposite verdicts are both taken. -/
namespace PR
/-- a step: state, letter, goal, laid letters, weight -/
structure Stp where
  s : Int
  l : Int
  g : Int
  laid : List Int
  w : Int
structure Mach where
  st : Int
  lt : Int
  steps : List Stp
abbrev Hd := Int × Int
structure Ent where
  s : Int
  l : Int
  g : Int
  f : Bool
  deriving DecidableEq
def Ent.hd (e : Ent) : Hd := (e.s, e.l)
/-- a machine within the law's bounds -/
structure Mach.Ok (M : Mach) : Prop where
  st1 : 1 ≤ M.st
  st4 : M.st ≤ 4
  lt1 : 1 ≤ M.lt
  lt3 : M.lt ≤ 3
  n10 : M.steps.length ≤ 10
  fit : ∀ p ∈ M.steps, 0 ≤ p.s ∧ p.s < M.st ∧ 0 ≤ p.l ∧ p.l < M.lt ∧ 0 ≤ p.g ∧ p.g < M.st ∧ p.laid.length ≤ 2 ∧ ∀ x ∈ p.laid, 0 ≤ x ∧ x < M.lt

/-! ### the judge: rows of taking off -/
def stepJ (M : Mach) (i : Int) : Option Stp := if 0 ≤ i ∧ i < (M.steps.length : Int) then M.steps[i.toNat]? else none
def entJ (es : List Ent) (i : Int) (s l : Int) : Option Ent :=
  if 0 ≤ i ∧ i < (es.length : Int) then
    match es[i.toNat]? with
    | some e => if e.s = s ∧ e.l = l then some e else none
    | none => none
  else none
/-- the parts of a row, one after another -/
def partsJ (es : List Ent) : List (Int × Int) → Int → Bool → Option (Int × Bool)
  | [], s, f => some (s, f)
  | (l, p) :: r, s, f => match entJ es p s l with
    | none => none
    | some e => partsJ es r e.g (f || e.f)
abbrev RowJ := Int × List Int
def readJ (M : Mach) (mk : Int → Bool) (es : List Ent) (row : RowJ) : Option (List Ent) :=
  match stepJ M row.1 with
  | none => none
  | some st => if row.2.length ≠ st.laid.length then none else
    match partsJ es (st.laid.zip row.2) st.g (mk row.1) with
    | none => none
    | some (s, f) => some (es ++ [⟨st.s, st.l, s, f⟩])
def takingsJ (M : Mach) (mk : Int → Bool) : List RowJ → List Ent → Option (List Ent)
  | [], es => some es
  | r :: rs, es => match readJ M mk es r with
    | none => none
    | some es' => takingsJ M mk rs es'
def descJ (es : List Ent) : List (Int × Int) → Int → Option Int
  | [], s => some s
  | (l, i) :: r, s => match entJ es i s l with
    | none => none
    | some e => descJ es r e.g
def headJ (es : List Ent) (c : Int × List Int) (d : List Int) : Option Hd :=
  if c.2.length ≤ d.length then none else
    match descJ es (c.2.zip d) c.1 with
    | none => none
    | some s => some (s, c.2.getD d.length 0)
abbrev Mv := Int × Option Int
def moveJ (M : Mach) (mk : Int → Bool) (es : List Ent) (m : Mv) : Option (Hd × Hd × Bool) :=
  match stepJ M m.1 with
  | none => none
  | some st => match st.laid with
    | [] => none
    | a :: r => match m.2 with
      | none => some ((st.s, st.l), (st.g, a), mk m.1)
      | some p => match entJ es p st.g a with
        | none => none
        | some e => match r with
          | [b] => some ((st.s, st.l), (e.g, b), mk m.1 || e.f)
          | _ => none
def walkJ (M : Mach) (mk : Int → Bool) (es : List Ent) : List Mv → Hd → Bool → Option (Hd × Bool)
  | [], h, f => some (h, f)
  | m :: r, h, f => match moveJ M mk es m with
    | none => none
    | some (h0, h1, b) => if h0 = h then walkJ M mk es r h1 (f || b) else none
structure Ever where
  rows : List RowJ
  desc : List Int
  way : List Mv
  ring : List Mv
def everJ (M : Mach) (mk : Int → Bool) (c : Int × List Int) (p : Ever) : Bool :=
  match takingsJ M mk p.rows [] with
  | none => false
  | some es => match headJ es c p.desc with
    | none => false
    | some h => match walkJ M mk es p.way h false with
      | none => false
      | some r => decide (walkJ M mk es p.ring r.1 false = some (r.1, true))

/-! ### the judge: tables and ranks -/
/-- the goals and flags that a table has at a head -/
def fromJ (T : List Ent) (h : Hd) : List (Int × Bool) := (T.filter fun e => decide (e.hd = h)).map fun e => (e.g, e.f)
def reachJ (T : List Ent) : List Int → List (Int × Bool) → List (Int × Bool)
  | [], r => r
  | l :: ls, r => reachJ T ls (r.flatMap fun p => (fromJ T (p.1, l)).map fun q => (q.1, p.2 || q.2))
def closed1J (T : List Ent) (st : Stp) (m : Bool) : Bool := (reachJ T st.laid [(st.g, m)]).all fun p => decide ((⟨st.s, st.l, p.1, p.2⟩ : Ent) ∈ T)
def closedJ (T : List Ent) (mk : Int → Bool) : List Stp → Nat → Bool
  | [], _ => true
  | st :: r, i => closed1J T st (mk i) && closedJ T mk r (i + 1)
def edgesJ (T : List Ent) (st : Stp) (m : Bool) : List (Hd × Bool) :=
  match st.laid with
  | [] => []
  | [a] => [((st.g, a), m)]
  | [a, b] => ((st.g, a), m) :: (fromJ T (st.g, a)).map fun q => ((q.1, b), m || q.2)
  | a :: _ => [((st.g, a), m)]
def rankOf (R : List (Hd × Int)) (h : Hd) : Option Int := (R.find? fun p => decide (p.1 = h)).map (·.2)
def b2i (b : Bool) : Int := if b then 1 else 0
def edgeOkJ (R : List (Hd × Int)) (r : Int) (e : Hd × Bool) : Bool :=
  match rankOf R e.1 with
  | none => false
  | some r' => decide (r' + b2i e.2 ≤ r)
def falls1J (T : List Ent) (R : List (Hd × Int)) (st : Stp) (m : Bool) : Bool :=
  match rankOf R (st.s, st.l) with
  | none => true
  | some r => (edgesJ T st m).all (edgeOkJ R r)
def fallsJ (T : List Ent) (R : List (Hd × Int)) (mk : Int → Bool) : List Stp → Nat → Bool
  | [], _ => true
  | st :: r, i => falls1J T R st (mk i) && fallsJ T R mk r (i + 1)
/-- an item put at the end, unless it is there -/
def ins {α : Type} [DecidableEq α] (xs : List α) (a : α) : List α := if a ∈ xs then xs else xs ++ [a]
def nextJ (T : List Ent) (l : Int) (sts : List Int) : List Int := (sts.flatMap fun b => (fromJ T (b, l)).map (·.1)).foldl ins []
def startsJ (T : List Ent) (R : List (Hd × Int)) : List Int → List Int → Bool
  | [], _ => true
  | l :: p, sts => (sts.all fun b => (rankOf R (b, l)).isSome) && startsJ T R p (nextJ T l sts)
def isHeadJ (M : Mach) (s l : Int) : Bool := decide (0 ≤ s ∧ s < M.st) && decide (0 ≤ l ∧ l < M.lt)
def entsOkJ (M : Mach) (T : List Ent) : Bool := T.all fun e => isHeadJ M e.s e.l && isHeadJ M e.g 0
def hdLt (a b : Hd) : Bool := if a.1 = b.1 then decide (a.2 < b.2) else decide (a.1 < b.1)
def ascJ : List (Hd × Int) → Bool
  | [] => true
  | [_] => true
  | a :: b :: r => hdLt a.1 b.1 && ascJ (b :: r)
def ranksOkJ (M : Mach) (R : List (Hd × Int)) : Bool := (R.all fun p => decide (0 ≤ p.2) && isHeadJ M p.1.1 p.1.2) && ascJ R
def notJ (M : Mach) (mk : Int → Bool) (c : Int × List Int) (T : List Ent) (R : List (Hd × Int)) : Bool :=
  entsOkJ M T && ranksOkJ M R && closedJ T mk M.steps 0 && (fallsJ T R mk M.steps 0 && startsJ T R c.2 [c.1])
inductive Paper where
  | ever (p : Ever)
  | not (T : List Ent) (R : List (Hd × Int))
def Paper.verdict : Paper → Bool
  | .ever _ => true
  | .not _ _ => false
/-- whether the judge finds the paper right -/
def Paper.right (M : Mach) (mk : Int → Bool) (c : Int × List Int) : Paper → Bool
  | .ever p => everJ M mk c p
  | .not T R => notJ M mk c T R
def takesJ (M : Mach) (mk : Int → Bool) (c : Int × List Int) (v : Bool) (p : Paper) : Bool := decide (v = p.verdict) && p.right M mk c

/-! ### no two papers of opposite verdicts -/
theorem closed_at {T : List Ent} {mk : Int → Bool} : ∀ {steps : List Stp} {k : Nat}, closedJ T mk steps k = true → ∀ {i : Nat} {st : Stp}, steps[i]? = some st → closed1J T st (mk ((k + i : Nat) : Int)) = true
  | [], _, _, i, st, h => by simp at h
  | s :: r, k, hc, i, st, h => by
    simp only [closedJ, Bool.and_eq_true] at hc
    cases i with
    | zero => simp at h; subst h; simpa using hc.1
    | succ i =>
      have := closed_at hc.2 (i := i) (st := st) (by simpa using h)
      rw [show k + (i + 1) = k + 1 + i by omega]; exact this
theorem falls_at {T : List Ent} {R : List (Hd × Int)} {mk : Int → Bool} : ∀ {steps : List Stp} {k : Nat}, fallsJ T R mk steps k = true → ∀ {i : Nat} {st : Stp}, steps[i]? = some st → falls1J T R st (mk ((k + i : Nat) : Int)) = true
  | [], _, _, i, st, h => by simp at h
  | s :: r, k, hc, i, st, h => by
    simp only [fallsJ, Bool.and_eq_true] at hc
    cases i with
    | zero => simp at h; subst h; simpa using hc.1
    | succ i =>
      have := falls_at hc.2 (i := i) (st := st) (by simpa using h)
      rw [show k + (i + 1) = k + 1 + i by omega]; exact this
theorem stepJ_some {M : Mach} {i : Int} {st : Stp} (h : stepJ M i = some st) : ∃ n : Nat, i = (n : Int) ∧ M.steps[n]? = some st := by
  unfold stepJ at h
  split at h
  · rename_i hc
    exact ⟨i.toNat, by omega, h⟩
  · cases h
theorem entJ_some {es : List Ent} {i s l : Int} {e : Ent} (h : entJ es i s l = some e) : e ∈ es ∧ e.s = s ∧ e.l = l := by
  unfold entJ at h
  split at h
  · split at h
    · rename_i e' he
      split at h
      · rename_i hc
        cases h
        exact ⟨List.mem_of_getElem? he, hc.1, hc.2⟩
      · cases h
    · cases h
  · cases h
theorem mem_fromJ {T : List Ent} {e : Ent} (h : e ∈ T) : (e.g, e.f) ∈ fromJ T (e.s, e.l) :=
  List.mem_map.mpr ⟨e, List.mem_filter.mpr ⟨h, by simp [Ent.hd]⟩, rfl⟩
theorem of_mem_fromJ {T : List Ent} {h : Hd} {q : Int × Bool} (hq : q ∈ fromJ T h) : (⟨h.1, h.2, q.1, q.2⟩ : Ent) ∈ T := by
  obtain ⟨e, he, rfl⟩ := List.mem_map.mp hq
  obtain ⟨h1, h2⟩ := List.mem_filter.mp he
  have h3 : e.hd = h := by simpa using h2
  subst h3
  exact h1
theorem reach_parts {T es : List Ent} (hs : ∀ e ∈ es, e ∈ T) : ∀ (lp : List (Int × Int)) (ls : List Int) (s : Int) (f : Bool) (r : List (Int × Bool)) (q : Int × Bool), lp.map (·.1) = ls → (s, f) ∈ r → partsJ es lp s f = some q → q ∈ reachJ T ls r
  | [], ls, s, f, r, q, hl, hr, hp => by
    simp at hl; subst hl
    simp [partsJ] at hp; subst hp
    exact hr
  | (l, p) :: lp, ls, s, f, r, q, hl, hr, hp => by
    simp at hl; subst hl
    simp only [partsJ] at hp
    split at hp
    · cases hp
    · rename_i e he
      obtain ⟨h1, h2, h3⟩ := entJ_some he
      show q ∈ reachJ T (lp.map (·.1)) _
      refine reach_parts hs lp (lp.map (·.1)) e.g (f || e.f) _ q rfl ?_ hp
      refine List.mem_flatMap.mpr ⟨(s, f), hr, List.mem_map.mpr ⟨(e.g, e.f), ?_, rfl⟩⟩
      have := mem_fromJ (hs e h1)
      rw [h2, h3] at this
      exact this
/-- every row that the judge reads is an entry of a closed table -/
theorem takings_in {M : Mach} {mk : Int → Bool} {T : List Ent} (hc : closedJ T mk M.steps 0 = true) : ∀ (rows : List RowJ) (es es' : List Ent), (∀ e ∈ es, e ∈ T) → takingsJ M mk rows es = some es' → ∀ e ∈ es', e ∈ T
  | [], es, es', hs, h => by simp [takingsJ] at h; subst h; exact hs
  | r :: rs, es, es', hs, h => by
    simp only [takingsJ] at h
    split at h
    · cases h
    · rename_i es1 h1
      refine takings_in hc rs es1 es' ?_ h
      unfold readJ at h1
      split at h1
      · cases h1
      · rename_i st hst
        split at h1
        · cases h1
        · rename_i hlen
          split at h1
          · cases h1
          · rename_i s f hp
            cases h1
            intro e he
            rcases List.mem_append.mp he with he | he
            · exact hs e he
            · simp at he; subst he
              obtain ⟨n, hn, hst'⟩ := stepJ_some hst
              have hcl := closed_at hc hst'
              have hz : (st.laid.zip r.2).map (·.1) = st.laid := by
                rw [List.map_fst_zip]; omega
              have hm := reach_parts hs _ _ _ _ [(st.g, mk r.1)] (s, f) hz (by simp) hp
              unfold closed1J at hcl
              have := List.all_eq_true.mp hcl (s, f) (by rw [hn] at hm; simpa using hm)
              simpa using this
theorem mem_ins {α : Type} [DecidableEq α] {xs : List α} {a b : α} : b ∈ ins xs a ↔ b ∈ xs ∨ b = a := by
  unfold ins
  split
  · rename_i h
    constructor
    · exact .inl
    · rintro (h1 | rfl)
      · exact h1
      · exact h
  · simp
theorem mem_foldl_ins {α : Type} [DecidableEq α] : ∀ {ys xs : List α} {b : α}, b ∈ ys.foldl ins xs ↔ b ∈ xs ∨ b ∈ ys
  | [], xs, b => by simp
  | y :: ys, xs, b => by
    rw [List.foldl_cons, mem_foldl_ins, mem_ins, List.mem_cons, or_assoc]
theorem mem_nextJ {T : List Ent} {l : Int} {sts : List Int} {e : Ent} (he : e ∈ T) (hl : e.l = l) (hs : e.s ∈ sts) : e.g ∈ nextJ T l sts := by
  unfold nextJ
  rw [mem_foldl_ins]
  right
  refine List.mem_flatMap.mpr ⟨e.s, hs, List.mem_map.mpr ⟨(e.g, e.f), ?_, rfl⟩⟩
  rw [← hl]; exact mem_fromJ he
/-- the head behind a descent has a rank -/
theorem desc_rank {T es : List Ent} {R : List (Hd × Int)} (hs : ∀ e ∈ es, e ∈ T) : ∀ (pile : List Int) (d : List Int) (s s' : Int) (sts : List Int), s ∈ sts → startsJ T R pile sts = true → d.length < pile.length → descJ es (pile.zip d) s = some s' →
    (rankOf R (s', pile.getD d.length 0)).isSome = true
  | [], d, s, s', sts, _, _, hlt, _ => by simp at hlt
  | l :: p, [], s, s', sts, hm, hst, _, hd => by
    simp [descJ] at hd; subst hd
    simp only [startsJ, Bool.and_eq_true] at hst
    simpa using List.all_eq_true.mp hst.1 s hm
  | l :: p, i :: d, s, s', sts, hm, hst, hlt, hd => by
    simp only [startsJ, Bool.and_eq_true] at hst
    simp only [List.zip_cons_cons, descJ] at hd
    split at hd
    · cases hd
    · rename_i e he
      obtain ⟨h1, h2, h3⟩ := entJ_some he
      have := desc_rank hs p d e.g s' (nextJ T l sts) (mem_nextJ (hs e h1) h3 (by rw [h2]; exact hm)) hst.2 (by simpa using hlt) hd
      simpa using this
theorem move_edge {M : Mach} {mk : Int → Bool} {T es : List Ent} {R : List (Hd × Int)} (hs : ∀ e ∈ es, e ∈ T) (hf : fallsJ T R mk M.steps 0 = true) {m : Mv} {h0 h1 : Hd} {b : Bool} {r : Int} (hm : moveJ M mk es m = some (h0, h1, b)) (hr : rankOf R h0 = some r) :
    ∃ r', rankOf R h1 = some r' ∧ r' + b2i b ≤ r := by
  have key : ∀ (st : Stp) (x : Hd × Bool), stepJ M m.1 = some st → h0 = (st.s, st.l) → x ∈ edgesJ T st (mk m.1) → ∃ r', rankOf R x.1 = some r' ∧ r' + b2i x.2 ≤ r := by
    intro st x hst he hx
    obtain ⟨n, hn, hst'⟩ := stepJ_some hst
    have h := falls_at hf hst'
    unfold falls1J at h
    rw [he] at hr
    rw [hr] at h
    rw [hn] at hx
    have h2 := List.all_eq_true.mp h x (by simpa using hx)
    unfold edgeOkJ at h2
    split at h2
    · cases h2
    · rename_i r' hr'
      exact ⟨r', hr', by simpa using h2⟩
  unfold moveJ at hm
  split at hm
  · cases hm
  · rename_i st hst
    split at hm
    · cases hm
    · rename_i a rs hl
      split at hm
      · cases hm
        refine key st ((st.g, a), mk m.1) hst rfl ?_
        unfold edgesJ
        rw [hl]
        cases rs with
        | nil => simp
        | cons b t => cases t <;> simp
      · split at hm
        · cases hm
        · rename_i e he
          obtain ⟨e1, e2, e3⟩ := entJ_some he
          split at hm
          · rename_i c
            cases hm
            refine key st ((e.g, c), mk m.1 || e.f) hst rfl ?_
            unfold edgesJ
            rw [hl]
            refine List.mem_cons_of_mem _ (List.mem_map.mpr ⟨(e.g, e.f), ?_, rfl⟩)
            have := mem_fromJ (hs e e1)
            rw [e2, e3] at this
            exact this
          · cases hm
theorem b2i_nn (b : Bool) : 0 ≤ b2i b := by cases b <;> decide
theorem walk_rank {M : Mach} {mk : Int → Bool} {T es : List Ent} {R : List (Hd × Int)} (hs : ∀ e ∈ es, e ∈ T) (hf : fallsJ T R mk M.steps 0 = true) : ∀ (ms : List Mv) (h h' : Hd) (f f' : Bool) (r : Int), walkJ M mk es ms h f = some (h', f') → rankOf R h = some r →
    ∃ r', rankOf R h' = some r' ∧ r' + b2i f' ≤ r + b2i f
  | [], h, h', f, f', r, hw, hr => by
    simp [walkJ] at hw
    obtain ⟨rfl, rfl⟩ := hw
    exact ⟨r, hr, Int.le_refl _⟩
  | m :: ms, h, h', f, f', r, hw, hr => by
    simp only [walkJ] at hw
    split at hw
    · cases hw
    · rename_i h0 h1 b hm
      split at hw
      · rename_i he
        subst he
        obtain ⟨r1, e1, l1⟩ := move_edge hs hf hm hr
        obtain ⟨r', e', l'⟩ := walk_rank hs hf ms h1 h' (f || b) f' r1 hw e1
        refine ⟨r', e', ?_⟩
        have : b2i (f || b) ≤ b2i f + b2i b := by cases f <;> cases b <;> decide
        omega
      · cases hw
/-- NO TWO PAPERS of opposite verdicts are right -/
theorem no_both {M : Mach} {mk : Int → Bool} {c : Int × List Int} {p : Ever} {T : List Ent} {R : List (Hd × Int)} (h1 : everJ M mk c p = true) (h2 : notJ M mk c T R = true) : False := by
  simp only [notJ, Bool.and_eq_true] at h2
  obtain ⟨⟨⟨-, -⟩, hc⟩, hf, hst⟩ := h2
  unfold everJ at h1
  split at h1
  · cases h1
  · rename_i es hes
    have hs := takings_in hc p.rows [] es (by simp) hes
    split at h1
    · cases h1
    · rename_i h hh
      split at h1
      · cases h1
      · rename_i r hr
        have hring : walkJ M mk es p.ring r.1 false = some (r.1, true) := by simpa using h1
        have hrank : (rankOf R h).isSome = true := by
          unfold headJ at hh
          split at hh
          · cases hh
          · rename_i hlen
            split at hh
            · cases hh
            · rename_i s hd
              cases hh
              exact desc_rank hs c.2 p.desc c.1 s [c.1] (by simp) hst (by omega) hd
        obtain ⟨k, hk⟩ := Option.isSome_iff_exists.mp hrank
        obtain ⟨r1, e1, l1⟩ := walk_rank hs hf p.way h r.1 false r.2 k (by rw [hr]) hk
        obtain ⟨r2, e2, l2⟩ := walk_rank hs hf p.ring r.1 r.1 false true r1 hring e1
        rw [e1] at e2
        cases e2
        simp [b2i] at l2
        omega
theorem takes_apart {M : Mach} {mk : Int → Bool} {c : Int × List Int} {p q : Paper} (hp : q.right M mk c = true) : takesJ M mk c (!q.verdict) p = false := by
  unfold takesJ
  cases p with
  | ever p =>
    cases q with
    | ever q => simp [Paper.verdict]
    | not T R =>
      cases e : everJ M mk c p with
      | false => simp [Paper.right, e]
      | true => exact (no_both e hp).elim
  | not T R =>
    cases q with
    | not T' R' => simp [Paper.verdict]
    | ever q =>
      cases e : notJ M mk c T R with
      | false => simp [Paper.right, e]
      | true => exact (no_both hp e).elim
end PR
#print axioms PR.takes_apart
end

section
set_option autoImplicit false
/-! Plain mathematics: what `endless` makes, and that the judge takes it. -/
namespace PR
/-! ### entries and their derivations -/
/-- an entry found, with the step and the entries of the parts -/
abbrev FE := Ent × Nat × List Ent
def keysE (K : List FE) : List Ent := K.map (·.1)
def chainE : List Int → List Ent → Int → Bool → Option (Int × Bool)
  | [], [], s, f => some (s, f)
  | l :: ls, p :: ps, s, f => if p.s = s ∧ p.l = l then chainE ls ps p.g (f || p.f) else none
  | _, _, _, _ => none
theorem chainE_len : ∀ {ls : List Int} {ps : List Ent} {s : Int} {f : Bool} {q : Int × Bool}, chainE ls ps s f = some q → ps.length = ls.length
  | [], [], _, _, _, _ => rfl
  | [], _ :: _, _, _, _, h => by simp [chainE] at h
  | _ :: _, [], _, _, _, h => by simp [chainE] at h
  | l :: ls, p :: ps, s, f, q, h => by
    simp only [chainE] at h
    split at h
    · simp [chainE_len h]
    · cases h
def Closed (T : List Ent) (mk : Int → Bool) (steps : List Stp) : Prop :=
  ∀ (i : Nat) (st : Stp), steps[i]? = some st → ∀ (ps : List Ent) (s : Int) (f : Bool), (∀ p ∈ ps, p ∈ T) → chainE st.laid ps st.g (mk i) = some (s, f) → (⟨st.s, st.l, s, f⟩ : Ent) ∈ T
theorem Closed.same {T T' : List Ent} {mk : Int → Bool} {steps : List Stp} (h : Closed T mk steps) (e : ∀ x, x ∈ T ↔ x ∈ T') : Closed T' mk steps :=
  fun i st hi ps s f hp hc => (e _).mp (h i st hi ps s f (fun p q => (e p).mpr (hp p q)) hc)
theorem reach_chain {T : List Ent} : ∀ (ls : List Int) (r : List (Int × Bool)) (q : Int × Bool), q ∈ reachJ T ls r → ∃ s f ps, (s, f) ∈ r ∧ (∀ p ∈ ps, p ∈ T) ∧ chainE ls ps s f = some q
  | [], r, q, h => ⟨q.1, q.2, [], h, by simp, rfl⟩
  | l :: ls, r, q, h => by
    obtain ⟨s, f, ps, h1, h2, h3⟩ := reach_chain ls _ q (show q ∈ reachJ T ls _ from h)
    obtain ⟨x, hx, hy⟩ := List.mem_flatMap.mp h1
    obtain ⟨y, hy1, hy2⟩ := List.mem_map.mp hy
    have hT := of_mem_fromJ hy1
    cases hy2
    refine ⟨x.1, x.2, ⟨x.1, l, y.1, y.2⟩ :: ps, hx, ?_, ?_⟩
    · intro p hp
      rcases List.mem_cons.mp hp with rfl | hp
      · exact hT
      · exact h2 p hp
    · simp only [chainE, and_self, if_true]
      exact h3
theorem closedJ_of {T : List Ent} {mk : Int → Bool} {steps : List Stp} (h : Closed T mk steps) : closedJ T mk steps 0 = true := by
  have gen : ∀ (l : List Stp) (k : Nat), (∀ (i : Nat) (st : Stp), l[i]? = some st → closed1J T st (mk ((k + i : Nat) : Int)) = true) → closedJ T mk l k = true := by
    intro l
    induction l with
    | nil => intro k _; rfl
    | cons a r ih =>
      intro k hk
      simp only [closedJ, Bool.and_eq_true]
      refine ⟨by simpa using hk 0 a rfl, ih (k + 1) fun i st hi => ?_⟩
      have := hk (i + 1) st (by simpa using hi)
      rw [show k + (i + 1) = k + 1 + i by omega] at this
      exact this
  refine gen steps 0 fun i st hi => ?_
  unfold closed1J
  refine List.all_eq_true.mpr fun q hq => ?_
  obtain ⟨s, f, ps, h1, h2, h3⟩ := reach_chain _ _ q hq
  simp only [List.mem_singleton, Prod.mk.injEq] at h1
  obtain ⟨rfl, rfl⟩ := h1
  have h0 : ((0 + i : Nat) : Int) = (i : Int) := by omega
  rw [h0] at h3
  simpa using h i st hi ps q.1 q.2 h2 h3
def EntIn (M : Mach) (e : Ent) : Prop := 0 ≤ e.s ∧ e.s < M.st ∧ 0 ≤ e.l ∧ e.l < M.lt ∧ 0 ≤ e.g ∧ e.g < M.st
/-- the table of taking off with its derivations -/
structure TakeOk (M : Mach) (mk : Int → Bool) (K : List FE) : Prop where
  nd : (keysE K).Nodup
  der : ∀ (j : Nat) (e : Ent) (i : Nat) (ps : List Ent), K[j]? = some (e, i, ps) → ∃ st s f, M.steps[i]? = some st ∧ chainE st.laid ps st.g (mk i) = some (s, f) ∧ e = ⟨st.s, st.l, s, f⟩ ∧ ∀ p ∈ ps, ∃ j', j' < j ∧ (keysE K)[j']? = some p
  inn : ∀ e ∈ keysE K, EntIn M e
  closed : Closed (keysE K) mk M.steps

/-! ### rows -/
theorem nd_at {α : Type} {l : List α} (h : l.Nodup) {i j : Nat} {a : α} (hi : l[i]? = some a) (hj : l[j]? = some a) : i = j := by
  obtain ⟨i1, i2⟩ := List.getElem?_eq_some_iff.mp hi
  obtain ⟨j1, j2⟩ := List.getElem?_eq_some_iff.mp hj
  have p := List.pairwise_iff_getElem.mp h
  rcases Nat.lt_trichotomy i j with q | q | q
  · exact absurd (i2.trans j2.symm) (p i j i1 j1 q)
  · exact q
  · exact absurd (j2.trans i2.symm) (p j i j1 i1 q)
theorem takings_snoc {M : Mach} {mk : Int → Bool} : ∀ (rows : List RowJ) (r : RowJ) (es es' : List Ent), takingsJ M mk rows es = some es' → takingsJ M mk (rows ++ [r]) es = readJ M mk es' r
  | [], r, es, es', h => by
    simp only [takingsJ] at h
    cases h
    simp only [List.nil_append, takingsJ]
    split <;> simp_all
  | a :: rows, r, es, es', h => by
    simp only [takingsJ, List.cons_append] at h ⊢
    split at h
    · cases h
    · rename_i e1 h1
      exact takings_snoc rows r e1 es' h
theorem idx_at {PK : List Ent} {e : Ent} (h : e ∈ PK) : PK[PK.idxOf e]? = some e := by
  have hl := List.idxOf_lt_length_of_mem h
  rw [List.getElem?_eq_getElem hl, List.getElem_idxOf hl]
theorem entJ_idx {PK : List Ent} {e : Ent} (h : e ∈ PK) : entJ PK (PK.idxOf e : Nat) e.s e.l = some e := by
  unfold entJ
  have hl := List.idxOf_lt_length_of_mem h
  rw [if_pos ⟨by omega, by omega⟩]
  simp [idx_at h]
theorem parts_idx {PK : List Ent} : ∀ (ls : List Int) (ps : List Ent) (s : Int) (f : Bool) (q : Int × Bool), (∀ p ∈ ps, p ∈ PK) → chainE ls ps s f = some q → partsJ PK (ls.zip (ps.map fun p => ((PK.idxOf p : Nat) : Int))) s f = some q
  | [], [], s, f, q, _, h => by simpa [partsJ, chainE] using h
  | [], _ :: _, s, f, q, _, h => by simp [chainE] at h
  | _ :: _, [], s, f, q, _, h => by simp [chainE] at h
  | l :: ls, p :: ps, s, f, q, hp, h => by
    simp only [chainE] at h
    split at h
    · rename_i hc
      simp only [List.map_cons, List.zip_cons_cons, partsJ]
      have := entJ_idx (hp p (List.mem_cons_self))
      rw [hc.1, hc.2] at this
      rw [this]
      exact parts_idx ls ps p.g (f || p.f) q (fun x hx => hp x (List.mem_cons_of_mem _ hx)) h
    · cases h
theorem stepJ_at {M : Mach} {i : Nat} {st : Stp} (h : M.steps[i]? = some st) : stepJ M (i : Int) = some st := by
  have := (List.getElem?_eq_some_iff.mp h).1
  unfold stepJ
  rw [if_pos ⟨by omega, by omega⟩]
  simpa using h
/-- rows so far: what the judge reads of them are the keys PK, in order -/
structure RowsOk (M : Mach) (mk : Int → Bool) (K : List FE) (PK : List Ent) (rows : List RowJ) : Prop where
  read : takingsJ M mk rows [] = some PK
  nd : PK.Nodup
  sub : ∀ e ∈ PK, e ∈ keysE K
theorem RowsOk.nil {M : Mach} {mk : Int → Bool} {K : List FE} : RowsOk M mk K [] [] := ⟨rfl, List.nodup_nil, by simp⟩
theorem nodup_snoc {α : Type} {l : List α} {a : α} (h : l.Nodup) (ha : a ∉ l) : (l ++ [a]).Nodup := by
  rw [List.nodup_append]
  exact ⟨h, List.nodup_cons.mpr ⟨by simp, List.nodup_nil⟩, fun x hx y hy e => ha (by simp at hy; rw [← hy, ← e]; exact hx)⟩
theorem RowsOk.add {M : Mach} {mk : Int → Bool} {K : List FE} {PK : List Ent} {rows : List RowJ} (R : RowsOk M mk K PK rows) (T : TakeOk M mk K) {j : Nat} {e : Ent} {i : Nat} {ps : List Ent} (h : K[j]? = some (e, i, ps)) (hn : e ∉ PK) (hp : ∀ p ∈ ps, p ∈ PK) :
    RowsOk M mk K (PK ++ [e]) (rows ++ [((i : Int), ps.map fun p => ((PK.idxOf p : Nat) : Int))]) := by
  obtain ⟨st, s, f, h1, h2, h3, -⟩ := T.der j e i ps h
  refine ⟨?_, nodup_snoc R.nd hn, fun x hx => ?_⟩
  · rw [takings_snoc rows _ [] PK R.read]
    unfold readJ
    simp only [stepJ_at h1, List.length_map]
    rw [if_neg (by rw [chainE_len h2]; simp), parts_idx _ _ _ _ _ hp h2, h3]
  · rcases List.mem_append.mp hx with hx | hx
    · exact R.sub x hx
    · simp at hx; subst hx
      exact List.mem_map.mpr ⟨_, List.mem_of_getElem? h, rfl⟩

/-! ### moves -/
structure Mov where
  e : Hd
  m : Bool
  i : Nat
  p : Option Ent
  deriving DecidableEq
def movsOf (mk : Int → Bool) (T : List Ent) (st : Stp) (i : Nat) : List Mov :=
  match st.laid with
  | [] => []
  | [a] => [⟨(st.g, a), mk i, i, none⟩]
  | [a, b] => ⟨(st.g, a), mk i, i, none⟩ :: (T.filter fun e => decide (e.hd = (st.g, a))).map fun e => ⟨(e.g, b), mk i || e.f, i, some e⟩
  | a :: _ => [⟨(st.g, a), mk i, i, none⟩]
def movsF (mk : Int → Bool) (T : List Ent) (h : Hd) : List Stp → Nat → List Mov
  | [], _ => []
  | st :: r, i => (if (st.s, st.l) = h then movsOf mk T st i else []) ++ movsF mk T h r (i + 1)
/-- the moves from a head -/
def movs (M : Mach) (mk : Int → Bool) (T : List Ent) (h : Hd) : List Mov := movsF mk T h M.steps 0
theorem mem_movsF {mk : Int → Bool} {T : List Ent} {h : Hd} {mv : Mov} : ∀ (l : List Stp) (k : Nat), mv ∈ movsF mk T h l k ↔ ∃ (i : Nat) (st : Stp), l[i]? = some st ∧ (st.s, st.l) = h ∧ mv ∈ movsOf mk T st (k + i)
  | [], k => by simp [movsF]
  | a :: r, k => by
    simp only [movsF, List.mem_append, mem_movsF r (k + 1)]
    constructor
    · rintro (h1 | ⟨i, st, h1, h2, h3⟩)
      · split at h1
        · exact ⟨0, a, rfl, by assumption, h1⟩
        · cases h1
      · exact ⟨i + 1, st, by simpa using h1, h2, by rw [show k + (i + 1) = k + 1 + i by omega]; exact h3⟩
    · rintro ⟨i, st, h1, h2, h3⟩
      cases i with
      | zero =>
        simp at h1; subst h1
        left
        rw [if_pos h2]
        exact h3
      | succ i =>
        right
        exact ⟨i, st, by simpa using h1, h2, by rw [show k + 1 + i = k + (i + 1) by omega]; exact h3⟩
theorem mem_movs {M : Mach} {mk : Int → Bool} {T : List Ent} {h : Hd} {mv : Mov} : mv ∈ movs M mk T h ↔ ∃ (i : Nat) (st : Stp), M.steps[i]? = some st ∧ (st.s, st.l) = h ∧ mv ∈ movsOf mk T st i := by
  unfold movs
  rw [mem_movsF]
  simp
/-- a move as it stands in a paper -/
def told (PK : List Ent) (mv : Mov) : Mv := ((mv.i : Int), mv.p.map fun e => ((PK.idxOf e : Nat) : Int))
theorem told_move {M : Mach} {mk : Int → Bool} {T PK : List Ent} {h : Hd} {mv : Mov} (hm : mv ∈ movs M mk T h) (hp : ∀ e, mv.p = some e → e ∈ PK) : moveJ M mk PK (told PK mv) = some (h, mv.e, mv.m) := by
  obtain ⟨i, st, h1, h2, h3⟩ := mem_movs.mp hm
  have simple : ∀ (a : Int) (r : List Int), st.laid = a :: r → mv = ⟨(st.g, a), mk i, i, none⟩ → moveJ M mk PK (told PK mv) = some (h, mv.e, mv.m) := by
    intro a r hl e
    subst e
    simp [moveJ, told, stepJ_at h1, hl, h2]
  unfold movsOf at h3
  split at h3
  · cases h3
  · rename_i a hl
    simp at h3
    exact simple a [] hl h3
  · rename_i a b hl
    rcases List.mem_cons.mp h3 with h3 | h3
    · exact simple a [b] hl h3
    · obtain ⟨e, he, rfl⟩ := List.mem_map.mp h3
      obtain ⟨he1, he2⟩ := List.mem_filter.mp he
      have he3 : e.hd = (st.g, a) := by simpa using he2
      have hin := entJ_idx (hp e rfl)
      have e1 : e.s = st.g := congrArg Prod.fst he3
      have e2 : e.l = a := congrArg Prod.snd he3
      rw [e1, e2] at hin
      simp [moveJ, told, stepJ_at h1, hl, hin, h2]
  · rename_i a r _ _ hl
    simp at h3
    exact simple _ _ hl h3
/-- moves that lead from a head to a head -/
inductive Path (M : Mach) (mk : Int → Bool) (T : List Ent) : Hd → List Mov → Hd → Prop where
  | nil (h : Hd) : Path M mk T h [] h
  | cons {h h' : Hd} {mv : Mov} {r : List Mov} : mv ∈ movs M mk T h → Path M mk T mv.e r h' → Path M mk T h (mv :: r) h'
theorem Path.snoc {M : Mach} {mk : Int → Bool} {T : List Ent} {h h' : Hd} {ms : List Mov} {mv : Mov} (p : Path M mk T h ms h') (hm : mv ∈ movs M mk T h') : Path M mk T h (ms ++ [mv]) mv.e := by
  induction p with
  | nil h => exact .cons hm (.nil _)
  | cons h1 _ ih => exact .cons h1 (ih hm)
theorem Path.trans {M : Mach} {mk : Int → Bool} {T : List Ent} {h h' h'' : Hd} {ms ns : List Mov} (p : Path M mk T h ms h') (q : Path M mk T h' ns h'') : Path M mk T h (ms ++ ns) h'' := by
  induction p with
  | nil h => exact q
  | cons h1 _ ih => exact .cons h1 (ih q)
theorem walk_told {M : Mach} {mk : Int → Bool} {T PK : List Ent} {h h' : Hd} {ms : List Mov} (p : Path M mk T h ms h') (hp : ∀ mv ∈ ms, ∀ e, mv.p = some e → e ∈ PK) : ∀ f : Bool, walkJ M mk PK (ms.map (told PK)) h f = some (h', f || ms.any (·.m)) := by
  induction p with
  | nil h => intro f; simp [walkJ]
  | cons h1 _ ih =>
    intro f
    simp only [List.map_cons, walkJ]
    rw [told_move h1 (hp _ List.mem_cons_self)]
    simp only [if_true]
    rw [ih (fun mv hm => hp mv (List.mem_cons_of_mem _ hm)) (f || _)]
    simp [Bool.or_assoc]

/-! ### descents -/
/-- entries that take the letters of a pile off, from a state -/
def DChain : List Int → List Ent → Int → Int → Prop
  | _, [], s, s' => s = s'
  | l :: p, e :: es, s, s' => e.s = s ∧ e.l = l ∧ DChain p es e.g s'
  | [], _ :: _, _, _ => False
theorem DChain.snoc : ∀ {p : List Int} {es : List Ent} {s s' : Int} {e : Ent} {l : Int}, DChain p es s s' → p[es.length]? = some l → e.s = s' → e.l = l → DChain p (es ++ [e]) s e.g
  | [], [], _, _, _, _, _, hl, _, _ => by simp at hl
  | l' :: p, [], s, s', e, l, h, hl, h1, h2 => by
    simp at hl; subst hl
    simp only [DChain] at h
    exact ⟨h1.trans h.symm, h2, by cases p <;> rfl⟩
  | l' :: p, a :: es, s, s', e, l, h, hl, h1, h2 => ⟨h.1, h.2.1, DChain.snoc h.2.2 (by simpa using hl) h1 h2⟩
  | [], _ :: _, _, _, _, _, h, _, _, _ => h.elim
theorem desc_told {PK : List Ent} : ∀ (p : List Int) (es : List Ent) (s s' : Int), DChain p es s s' → (∀ e ∈ es, e ∈ PK) → descJ PK (p.zip (es.map fun e => ((PK.idxOf e : Nat) : Int))) s = some s'
  | p, [], s, s', h, _ => by
    have : s = s' := by cases p <;> exact h
    subst this
    simp [descJ]
  | [], _ :: _, _, _, h, _ => h.elim
  | l :: p, e :: es, s, s', h, hp => by
    simp only [List.map_cons, List.zip_cons_cons, descJ]
    have hin := entJ_idx (hp e List.mem_cons_self)
    rw [h.1, h.2.1] at hin
    rw [hin]
    exact desc_told p es e.g s' h.2.2 fun x hx => hp x (List.mem_cons_of_mem _ hx)
/-- what descents makes: for each head that a descent comes to, the entries of one -/
structure DescOk (T : List Ent) (c : Int × List Int) (B : List (Hd × List Ent)) : Prop where
  nd : (B.map (·.1)).Nodup
  ok : ∀ h es, (h, es) ∈ B → (∀ e ∈ es, e ∈ T) ∧ es.length < c.2.length ∧ DChain c.2 es c.1 h.1 ∧ c.2[es.length]? = some h.2
/-- from some states on, all heads of a descent are keys -/
def StartsIn (T : List Ent) (F : List Hd) : List Int → List Int → Prop
  | [], _ => True
  | l :: p, sts => (∀ b ∈ sts, (b, l) ∈ F) ∧ StartsIn T F p (nextJ T l sts)

/-! ### THE PAPER "ever" IS TAKEN -/
theorem ever_right {M : Mach} {mk : Int → Bool} {K : List FE} {c : Int × List Int} {PK : List Ent} {rows : List RowJ} {B : List (Hd × List Ent)} {start h : Hd} {es : List Ent} {way ring : List Mov}
    (R : RowsOk M mk K PK rows) (D : DescOk (keysE K) c B) (hb : (start, es) ∈ B) (he : ∀ e ∈ es, e ∈ PK) (pw : Path M mk (keysE K) start way h) (pr : Path M mk (keysE K) h ring h) (hw : ∀ mv ∈ way ++ ring, ∀ e, mv.p = some e → e ∈ PK) (hm : ring.any (·.m) = true) :
    everJ M mk c ⟨rows, es.map fun e => ((PK.idxOf e : Nat) : Int), way.map (told PK), ring.map (told PK)⟩ = true := by
  obtain ⟨d1, d2, d3, d4⟩ := D.ok start es hb
  unfold everJ
  simp only [R.read]
  have hh : headJ PK c (es.map fun e => ((PK.idxOf e : Nat) : Int)) = some start := by
    unfold headJ
    rw [List.length_map, if_neg (by omega), desc_told _ _ _ _ d3 he]
    simp [List.getD, d4]
  rw [hh]
  simp only
  rw [walk_told pw (fun mv hm => hw mv (List.mem_append_left _ hm)) false]
  simp only
  rw [walk_told pr (fun mv hm => hw mv (List.mem_append_right _ hm)) false, hm]
  simp

/-! ### THE PAPER "not" IS TAKEN -/
/-- the last ranks: along each move from a head with a rank they do not rise, and they fall along a marked one -/
structure RanksOk (M : Mach) (mk : Int → Bool) (T : List Ent) (F : List Hd) (R : List (Hd × Int)) : Prop where
  keys : ∀ h, h ∈ F ↔ (rankOf R h).isSome = true
  nn : ∀ p ∈ R, 0 ≤ p.2
  falls : ∀ h r, rankOf R h = some r → ∀ mv ∈ movs M mk T h, ∃ r', rankOf R mv.e = some r' ∧ r' + b2i mv.m ≤ r
theorem starts_of {T : List Ent} {F : List Hd} {R : List (Hd × Int)} (hk : ∀ h, h ∈ F → (rankOf R h).isSome = true) : ∀ (p : List Int) (sts : List Int), StartsIn T F p sts → startsJ T R p sts = true
  | [], _, _ => rfl
  | l :: p, sts, h => by
    simp only [startsJ, Bool.and_eq_true]
    exact ⟨List.all_eq_true.mpr fun b hb => hk _ (h.1 b hb), starts_of hk p _ h.2⟩
theorem edge_move {mk : Int → Bool} {T : List Ent} {st : Stp} {i : Nat} {x : Hd × Bool} (h : x ∈ edgesJ T st (mk i)) : ∃ mv ∈ movsOf mk T st i, mv.e = x.1 ∧ mv.m = x.2 := by
  unfold edgesJ at h
  unfold movsOf
  split at h
  · cases h
  · rename_i a hl
    simp at h; subst h
    try rw [hl]
    exact ⟨_, List.mem_singleton.mpr rfl, rfl, rfl⟩
  · rename_i a b hl
    try rw [hl]
    rcases List.mem_cons.mp h with rfl | h
    · exact ⟨_, List.mem_cons_self, rfl, rfl⟩
    · obtain ⟨q, hq, rfl⟩ := List.mem_map.mp h
      obtain ⟨e, he, rfl⟩ := List.mem_map.mp hq
      exact ⟨_, List.mem_cons_of_mem _ (List.mem_map.mpr ⟨e, he, rfl⟩), rfl, rfl⟩
  · rename_i a r h1 h2 hl
    simp at h; subst h
    try rw [hl]
    cases r with
    | nil => exact False.elim (by simp_all)
    | cons b r =>
      cases r with
      | nil => exact False.elim (by simp_all)
      | cons c r => exact ⟨_, List.mem_singleton.mpr rfl, rfl, rfl⟩
theorem falls_of {M : Mach} {mk : Int → Bool} {T : List Ent} {F : List Hd} {R : List (Hd × Int)} (h : RanksOk M mk T F R) : fallsJ T R mk M.steps 0 = true := by
  have gen : ∀ (l : List Stp) (k : Nat), (∀ (i : Nat) (st : Stp), l[i]? = some st → falls1J T R st (mk ((k + i : Nat) : Int)) = true) → fallsJ T R mk l k = true := by
    intro l
    induction l with
    | nil => intro k _; rfl
    | cons a r ih =>
      intro k hk
      simp only [fallsJ, Bool.and_eq_true]
      refine ⟨by simpa using hk 0 a rfl, ih (k + 1) fun i st hi => ?_⟩
      have := hk (i + 1) st (by simpa using hi)
      rw [show k + (i + 1) = k + 1 + i by omega] at this
      exact this
  refine gen M.steps 0 fun i st hi => ?_
  unfold falls1J
  split
  · rfl
  · rename_i r hr
    refine List.all_eq_true.mpr fun x hx => ?_
    rw [show 0 + i = i by omega] at hx
    obtain ⟨mv, hmv, e1, e2⟩ := edge_move hx
    obtain ⟨r', hr', hl⟩ := h.falls _ r hr mv (mem_movs.mpr ⟨i, st, hi, rfl, hmv⟩)
    rw [e1] at hr'
    unfold edgeOkJ
    rw [hr', ← e2]
    simpa using hl
theorem not_right {M : Mach} {mk : Int → Bool} {K : List FE} {c : Int × List Int} {F : List Hd} {T : List Ent} {R : List (Hd × Int)} (A : TakeOk M mk K) (hT : ∀ e, e ∈ T ↔ e ∈ keysE K) (hF : ∀ h ∈ F, isHeadJ M h.1 h.2 = true)
    (hR : RanksOk M mk T F R) (hst : 1 ≤ M.lt) (ha : ascJ R = true) (hk : ∀ p ∈ R, p.1 ∈ F) (hs : StartsIn T F c.2 [c.1]) : notJ M mk c T R = true := by
  unfold notJ
  simp only [Bool.and_eq_true]
  refine ⟨⟨⟨?_, ?_⟩, closedJ_of (A.closed.same fun x => (hT x).symm)⟩, falls_of hR, starts_of (fun h hh => (hR.keys h).mp hh) _ _ hs⟩
  · refine List.all_eq_true.mpr fun e he => ?_
    obtain ⟨h1, h2, h3, h4, h5, h6⟩ := A.inn e ((hT e).mp he)
    simp [isHeadJ]
    omega
  · unfold ranksOkJ
    simp only [Bool.and_eq_true]
    refine ⟨List.all_eq_true.mpr fun p hp => ?_, ha⟩
    simp only [Bool.and_eq_true, decide_eq_true_eq]
    exact ⟨hR.nn p hp, hF _ (hk p hp)⟩
end PR
end

section
set_option autoImplicit false
/-! Plain mathematics: the table of taking off, reachable heads, descents, ranks. -/
namespace PR
/-! ### counting -/
def rng (n : Int) : List Int := (List.range n.toNat).map fun i : Nat => (i : Int)
theorem mem_rng {n x : Int} (h0 : 0 ≤ x) (h1 : x < n) : x ∈ rng n := List.mem_map.mpr ⟨x.toNat, List.mem_range.mpr (by omega), by omega⟩
theorem len_rng (n : Int) : (rng n).length = n.toNat := by simp [rng]
theorem flat_le {α β : Type} (F : α → List β) (n : Nat) (h : ∀ a, (F a).length ≤ n) : ∀ l : List α, (l.flatMap F).length ≤ l.length * n
  | [] => by simp
  | a :: l => by
    have := flat_le F n h l
    rw [List.flatMap_cons, List.length_append, List.length_cons, Nat.succ_mul]
    have := h a
    omega
def hdBox (M : Mach) : List Hd := (rng M.st).flatMap fun s => (rng M.lt).map fun l => (s, l)
theorem mem_hdBox {M : Mach} {h : Hd} (i : isHeadJ M h.1 h.2 = true) : h ∈ hdBox M := by
  simp only [isHeadJ, Bool.and_eq_true, decide_eq_true_eq] at i
  exact List.mem_flatMap.mpr ⟨h.1, mem_rng i.1.1 i.1.2, List.mem_map.mpr ⟨h.2, mem_rng i.2.1 i.2.2, rfl⟩⟩
theorem len_hdBox {M : Mach} (ok : M.Ok) : (hdBox M).length ≤ 12 := by
  have h := flat_le (fun s => (rng M.lt).map fun l => (s, l)) M.lt.toNat (fun a => by rw [List.length_map, len_rng]; exact Nat.le_refl _) (rng M.st)
  rw [len_rng] at h
  have a := ok.st4
  have b := ok.lt3
  have : M.st.toNat * M.lt.toNat ≤ 4 * 3 := Nat.mul_le_mul (by omega) (by omega)
  exact Nat.le_trans h this
def entBox (M : Mach) : List Ent := (hdBox M).flatMap fun h => (rng M.st).flatMap fun g => [⟨h.1, h.2, g, false⟩, ⟨h.1, h.2, g, true⟩]
theorem mem_entBox {M : Mach} {e : Ent} (i : EntIn M e) : e ∈ entBox M := by
  obtain ⟨h1, h2, h3, h4, h5, h6⟩ := i
  refine List.mem_flatMap.mpr ⟨(e.s, e.l), mem_hdBox (by simp [isHeadJ]; omega), List.mem_flatMap.mpr ⟨e.g, mem_rng h5 h6, ?_⟩⟩
  obtain ⟨s, l, g, f⟩ := e
  cases f <;> simp
theorem len_entBox {M : Mach} (ok : M.Ok) : (entBox M).length ≤ 96 := by
  have h := flat_le (fun h : Hd => (rng M.st).flatMap fun g => [(⟨h.1, h.2, g, false⟩ : Ent), ⟨h.1, h.2, g, true⟩]) 8 (fun a => by
    have := flat_le (fun g => [(⟨a.1, a.2, g, false⟩ : Ent), ⟨a.1, a.2, g, true⟩]) 2 (fun _ => Nat.le_refl _) (rng M.st)
    rw [len_rng] at this
    have := ok.st4
    omega) (hdBox M)
  have := len_hdBox ok
  have h' : (entBox M).length ≤ (hdBox M).length * 8 := h
  omega
theorem nodup_sub {α : Type} [DecidableEq α] : ∀ {l m : List α}, l.Nodup → (∀ x ∈ l, x ∈ m) → l.length ≤ m.length
  | [], _, _, _ => Nat.zero_le _
  | a :: l, m, nd, h => by
    obtain ⟨h1, h2⟩ := List.nodup_cons.mp nd
    have ha := h a List.mem_cons_self
    have := nodup_sub (m := m.erase a) h2 fun x hx => by
      have hm := h x (List.mem_cons_of_mem _ hx)
      have hne : x ≠ a := fun z => h1 (z ▸ hx)
      exact (List.mem_erase_of_ne hne).mpr hm
    rw [List.length_erase_of_mem ha] at this
    have := List.length_pos_of_mem ha
    rw [List.length_cons]
    omega
/-! ### ways -/
abbrev Way := Int × Bool × List Ent
def atHd (T : List Ent) (h : Hd) : List Ent := T.filter fun e => decide (e.hd = h)
theorem mem_atHd {T : List Ent} {h : Hd} {e : Ent} : e ∈ atHd T h ↔ e ∈ T ∧ e.hd = h := by simp [atHd, List.mem_filter]
def longerJ (T : List Ent) (l : Int) (w : Way) : List Way := (atHd T (w.1, l)).map fun e => (e.g, w.2.1 || e.f, w.2.2 ++ [e])
def waysJ (T : List Ent) : List Int → List Way → List Way
  | [], ws => ws
  | l :: ls, ws => waysJ T ls (ws.flatMap (longerJ T l))
theorem ways_chain {T : List Ent} : ∀ (ls : List Int) (ws : List Way) (s : Int) (f : Bool) (ps : List Ent), (s, f, ps) ∈ waysJ T ls ws → ∃ s0 f0 ps0 qs, (s0, f0, ps0) ∈ ws ∧ ps = ps0 ++ qs ∧ (∀ q ∈ qs, q ∈ T) ∧ chainE ls qs s0 f0 = some (s, f)
  | [], ws, s, f, ps, h => ⟨s, f, ps, [], h, by simp, by simp, rfl⟩
  | l :: ls, ws, s, f, ps, h => by
    obtain ⟨s0, f0, ps0, qs, h1, h2, h3, h4⟩ := ways_chain ls (ws.flatMap (longerJ T l)) s f ps h
    obtain ⟨w, hw, h5⟩ := List.mem_flatMap.mp h1
    obtain ⟨e, he, h6⟩ := List.mem_map.mp h5
    obtain ⟨he1, he2⟩ := mem_atHd.mp he
    cases h6
    refine ⟨w.1, w.2.1, w.2.2, e :: qs, hw, by simp [h2], ?_, ?_⟩
    · intro q hq
      rcases List.mem_cons.mp hq with rfl | hq
      · exact he1
      · exact h3 q hq
    · simp only [chainE]
      rw [if_pos ⟨congrArg Prod.fst he2, congrArg Prod.snd he2⟩]
      exact h4
theorem chain_ways {T : List Ent} : ∀ (ls : List Int) (ws : List Way) (s0 : Int) (f0 : Bool) (ps0 qs : List Ent) (s : Int) (f : Bool), (s0, f0, ps0) ∈ ws → (∀ q ∈ qs, q ∈ T) → chainE ls qs s0 f0 = some (s, f) → (s, f, ps0 ++ qs) ∈ waysJ T ls ws
  | [], ws, s0, f0, ps0, [], s, f, h, _, hc => by
    simp only [chainE, Option.some.injEq, Prod.mk.injEq] at hc
    obtain ⟨rfl, rfl⟩ := hc
    simpa [waysJ] using h
  | [], _, _, _, _, _ :: _, _, _, _, _, hc => by simp [chainE] at hc
  | _ :: _, _, _, _, _, [], _, _, _, _, hc => by simp [chainE] at hc
  | l :: ls, ws, s0, f0, ps0, q :: qs, s, f, h, hT, hc => by
    simp only [chainE] at hc
    split at hc
    · rename_i hq
      have := chain_ways ls (ws.flatMap (longerJ T l)) q.g (f0 || q.f) (ps0 ++ [q]) qs s f (List.mem_flatMap.mpr ⟨(s0, f0, ps0), h, List.mem_map.mpr ⟨q, mem_atHd.mpr ⟨hT q List.mem_cons_self, Prod.ext hq.1 hq.2⟩, rfl⟩⟩) (fun x hx => hT x (List.mem_cons_of_mem _ hx)) hc
      simpa [waysJ] using this
    · cases hc
theorem ways_len {T : List Ent} : ∀ (ls : List Int) (ws : List Way) (w : Way) (n : Nat), (∀ x ∈ ws, x.2.2.length ≤ n) → w ∈ waysJ T ls ws → w.2.2.length ≤ n + ls.length
  | [], _, w, _, h, hw => h w hw
  | l :: ls, ws, w, n, h, hw => by
    have := ways_len ls (ws.flatMap (longerJ T l)) w (n + 1) (fun x hx => by
      obtain ⟨y, hy, hx⟩ := List.mem_flatMap.mp hx
      obtain ⟨e, _, rfl⟩ := List.mem_map.mp hx
      have := h y hy
      simp
      omega) hw
    rw [List.length_cons]; omega
/-! ### rounds -/
def entOf (st : Stp) (w : Way) : Ent := ⟨st.s, st.l, w.1, w.2.1⟩
def add1 (st : Stp) (i : Nat) (K : List FE) (w : Way) : List FE := if entOf st w ∈ keysE K then K else K ++ [(entOf st w, i, w.2.2)]
def useJ (mk : Int → Bool) (st : Stp) (i : Nat) (K : List FE) : List FE := (waysJ (keysE K) st.laid [(st.g, mk i, [])]).foldl (add1 st i) K
def roundJ (mk : Int → Bool) : List Stp → Nat → List FE → List FE
  | [], _, K => K
  | st :: r, i, K => roundJ mk r (i + 1) (useJ mk st i K)
def Ext {α : Type} (K K' : List α) : Prop := ∃ r, K' = K ++ r
theorem Ext.refl {α : Type} (K : List α) : Ext K K := ⟨[], by simp⟩
theorem Ext.trans {α : Type} {A B C : List α} (h : Ext A B) (g : Ext B C) : Ext A C := by
  obtain ⟨r, rfl⟩ := h
  obtain ⟨t, rfl⟩ := g
  exact ⟨r ++ t, by simp⟩
theorem Ext.len {α : Type} {A B : List α} (h : Ext A B) : A.length ≤ B.length := by
  obtain ⟨r, rfl⟩ := h
  simp
theorem Ext.eq {α : Type} {A B : List α} (h : Ext A B) (l : B.length ≤ A.length) : B = A := by
  obtain ⟨r, rfl⟩ := h
  rw [List.length_append] at l
  rw [List.length_eq_zero_iff.mp (by omega : r.length = 0), List.append_nil]
theorem ext_add1 (st : Stp) (i : Nat) (K : List FE) (w : Way) : Ext K (add1 st i K w) := by
  unfold add1
  split
  · exact Ext.refl K
  · exact ⟨_, rfl⟩
theorem ext_fold (st : Stp) (i : Nat) : ∀ (ws : List Way) (K : List FE), Ext K (ws.foldl (add1 st i) K)
  | [], K => Ext.refl K
  | w :: ws, K => (ext_add1 st i K w).trans (ext_fold st i ws _)
theorem ext_use (mk : Int → Bool) (st : Stp) (i : Nat) (K : List FE) : Ext K (useJ mk st i K) := ext_fold _ _ _ _
theorem ext_round (mk : Int → Bool) : ∀ (l : List Stp) (i : Nat) (K : List FE), Ext K (roundJ mk l i K)
  | [], _, K => Ext.refl K
  | st :: r, i, K => (ext_use mk st i K).trans (ext_round mk r (i + 1) _)
theorem keys_ext {K K' : List FE} (h : Ext K K') {e : Ent} (he : e ∈ keysE K) : e ∈ keysE K' := by
  obtain ⟨r, rfl⟩ := h
  unfold keysE
  rw [List.map_append]
  exact List.mem_append_left _ he
theorem fold_in (st : Stp) (i : Nat) : ∀ (ws : List Way) (K : List FE) (w : Way), w ∈ ws → entOf st w ∈ keysE (ws.foldl (add1 st i) K)
  | x :: ws, K, w, h => by
    rw [List.foldl_cons]
    rcases List.mem_cons.mp h with rfl | h
    · refine keys_ext (ext_fold st i ws _) ?_
      unfold add1
      split
      · assumption
      · simp [keysE]
    · exact fold_in st i ws _ w h
/-- the table as it grows: distinct, derived from before, within the machine -/
structure TOk (M : Mach) (mk : Int → Bool) (K : List FE) : Prop where
  nd : (keysE K).Nodup
  der : ∀ (j : Nat) (e : Ent) (i : Nat) (ps : List Ent), K[j]? = some (e, i, ps) → ∃ st s f, M.steps[i]? = some st ∧ chainE st.laid ps st.g (mk i) = some (s, f) ∧ e = ⟨st.s, st.l, s, f⟩ ∧ ∀ p ∈ ps, ∃ j', j' < j ∧ (keysE K)[j']? = some p
  inn : ∀ e ∈ keysE K, EntIn M e
theorem TOk.nil {M : Mach} {mk : Int → Bool} : TOk M mk [] := ⟨List.nodup_nil, fun j e i ps h => by simp at h, by simp [keysE]⟩
theorem TOk.len {M : Mach} {mk : Int → Bool} {K : List FE} (ok : M.Ok) (h : TOk M mk K) : K.length ≤ 96 := by
  have := nodup_sub h.nd fun x hx => mem_entBox (h.inn x hx)
  rw [show (keysE K).length = K.length from List.length_map ..] at this
  exact Nat.le_trans this (len_entBox ok)
theorem chain_goal {M : Mach} {T : List Ent} (hT : ∀ e ∈ T, EntIn M e) : ∀ (ls : List Int) (qs : List Ent) (s0 : Int) (f0 : Bool) (s : Int) (f : Bool), 0 ≤ s0 → s0 < M.st → (∀ q ∈ qs, q ∈ T) → chainE ls qs s0 f0 = some (s, f) → 0 ≤ s ∧ s < M.st
  | [], [], s0, f0, s, f, h0, h1, _, hc => by
    simp only [chainE, Option.some.injEq, Prod.mk.injEq] at hc
    obtain ⟨rfl, rfl⟩ := hc
    exact ⟨h0, h1⟩
  | [], _ :: _, _, _, _, _, _, _, _, hc => by simp [chainE] at hc
  | _ :: _, [], _, _, _, _, _, _, _, hc => by simp [chainE] at hc
  | l :: ls, q :: qs, s0, f0, s, f, h0, h1, hq, hc => by
    simp only [chainE] at hc
    split at hc
    · obtain ⟨_, _, _, _, a, b⟩ := hT q (hq q List.mem_cons_self)
      exact chain_goal hT ls qs q.g _ s f a b (fun x hx => hq x (List.mem_cons_of_mem _ hx)) hc
    · cases hc
theorem TOk.add1 {M : Mach} {mk : Int → Bool} {K : List FE} (ok : M.Ok) (h : TOk M mk K) {st : Stp} {i : Nat} (hst : M.steps[i]? = some st) {w : Way} (hc : chainE st.laid w.2.2 st.g (mk i) = some (w.1, w.2.1)) (hp : ∀ p ∈ w.2.2, p ∈ keysE K) : TOk M mk (add1 st i K w) := by
  unfold PR.add1
  split
  · exact h
  · rename_i hn
    have hk : keysE (K ++ [(entOf st w, i, w.2.2)]) = keysE K ++ [entOf st w] := by simp [keysE]
    have idx : ∀ p ∈ keysE K, ∃ j', j' < K.length ∧ (keysE K ++ [entOf st w])[j']? = some p := fun p hp => by
      obtain ⟨j, hj⟩ := List.mem_iff_getElem?.mp hp
      have hl := (List.getElem?_eq_some_iff.mp hj).1
      rw [show (keysE K).length = K.length from List.length_map ..] at hl
      exact ⟨j, hl, by rw [List.getElem?_append_left (by rw [show (keysE K).length = K.length from List.length_map ..]; exact hl)]; exact hj⟩
    refine ⟨?_, ?_, ?_⟩
    · rw [hk]; exact nodup_snoc h.nd hn
    · intro j e i' ps hj
      rw [hk]
      by_cases hlt : j < K.length
      · rw [List.getElem?_append_left hlt] at hj
        obtain ⟨st', s, f, h1, h2, h3, h4⟩ := h.der j e i' ps hj
        refine ⟨st', s, f, h1, h2, h3, fun p hp => ?_⟩
        obtain ⟨j', l1, l2⟩ := h4 p hp
        have hl := (List.getElem?_eq_some_iff.mp l2).1
        exact ⟨j', l1, by rw [List.getElem?_append_left hl]; exact l2⟩
      · have hl := (List.getElem?_eq_some_iff.mp hj).1
        rw [List.length_append, List.length_singleton] at hl
        have hjk : j = K.length := by omega
        subst hjk
        rw [List.getElem?_concat_length] at hj
        cases hj
        exact ⟨st, w.1, w.2.1, hst, hc, rfl, fun p hq => idx p (hp p hq)⟩
    · intro e he
      rw [hk] at he
      rcases List.mem_append.mp he with he | he
      · exact h.inn e he
      · simp at he
        subst he
        obtain ⟨a1, a2, a3, a4, a5, a6, _⟩ := ok.fit st (List.mem_of_getElem? hst)
        obtain ⟨b1, b2⟩ := chain_goal h.inn _ _ _ _ _ _ a5 a6 hp hc
        exact ⟨a1, a2, a3, a4, b1, b2⟩
/-- each way that a use tries -/
def WayOk (mk : Int → Bool) (st : Stp) (i : Nat) (K : List FE) (w : Way) : Prop := chainE st.laid w.2.2 st.g (mk i) = some (w.1, w.2.1) ∧ ∀ p ∈ w.2.2, p ∈ keysE K
theorem ways_ok {mk : Int → Bool} {st : Stp} {i : Nat} {K : List FE} {w : Way} (h : w ∈ waysJ (keysE K) st.laid [(st.g, mk i, [])]) : WayOk mk st i K w := by
  obtain ⟨s0, f0, ps0, qs, h1, h2, h3, h4⟩ := ways_chain _ _ w.1 w.2.1 w.2.2 h
  simp only [List.mem_singleton, Prod.mk.injEq] at h1
  obtain ⟨rfl, rfl, rfl⟩ := h1
  simp only [List.nil_append] at h2
  exact ⟨by rw [h2]; exact h4, by rw [h2]; exact h3⟩
theorem WayOk.ext {mk : Int → Bool} {st : Stp} {i : Nat} {K K' : List FE} {w : Way} (h : WayOk mk st i K w) (e : Ext K K') : WayOk mk st i K' w := ⟨h.1, fun p hp => keys_ext e (h.2 p hp)⟩
theorem round_at {mk : Int → Bool} : ∀ {l : List Stp} {k : Nat} {K : List FE}, roundJ mk l k K = K → ∀ {i : Nat} {st : Stp}, l[i]? = some st → useJ mk st (k + i) K = K
  | [], _, _, _, i, st, h => by simp at h
  | s :: r, k, K, hr, i, st, h => by
    simp only [roundJ] at hr
    have e1 := ext_use mk s k K
    have e2 := ext_round mk r (k + 1) (useJ mk s k K)
    have h1 : useJ mk s k K = K := e1.eq (by have := e2.len; rw [hr] at this; exact this)
    rw [h1] at hr
    cases i with
    | zero => simp at h; subst h; exact h1
    | succ i =>
      have := round_at hr (i := i) (st := st) (by simpa using h)
      rw [show k + (i + 1) = k + 1 + i by omega]; exact this
theorem closed_of_round {mk : Int → Bool} {steps : List Stp} {K : List FE} (h : roundJ mk steps 0 K = K) : Closed (keysE K) mk steps := by
  intro i st hi ps s f hp hc
  have hu := round_at h hi
  rw [Nat.zero_add] at hu
  have hw := chain_ways (T := keysE K) st.laid [(st.g, mk i, [])] st.g (mk i) [] ps s f (by simp) hp hc
  have := fold_in st i _ K _ hw
  rw [show (waysJ (keysE K) st.laid [(st.g, mk i, [])]).foldl (add1 st i) K = K from hu] at this
  exact this
theorem TakeOk.of {M : Mach} {mk : Int → Bool} {K : List FE} (h : TOk M mk K) (hr : roundJ mk M.steps 0 K = K) : TakeOk M mk K := ⟨h.nd, h.der, h.inn, closed_of_round hr⟩
end PR
end

section
set_option autoImplicit false
/-! Plain mathematics: reachable heads, ways, ranks. -/
namespace PR
section
variable {M : Mach} {mk : Int → Bool} {T : List Ent}
theorem mov_box (ok : M.Ok) (hT : ∀ e ∈ T, EntIn M e) {h : Hd} {mv : Mov} (hm : mv ∈ movs M mk T h) : isHeadJ M mv.e.1 mv.e.2 = true := by
  obtain ⟨i, st, h1, h2, h3⟩ := mem_movs.mp hm
  obtain ⟨a1, a2, a3, a4, a5, a6, a7, a8⟩ := ok.fit st (List.mem_of_getElem? h1)
  have simple : ∀ (a : Int) (r : List Int), st.laid = a :: r → mv = ⟨(st.g, a), mk i, i, none⟩ → isHeadJ M mv.e.1 mv.e.2 = true := by
    intro a r hl e
    subst e
    have := a8 a (by rw [hl]; exact List.mem_cons_self)
    simp [isHeadJ]; omega
  unfold movsOf at h3
  split at h3
  · cases h3
  · rename_i a hl
    simp at h3
    exact simple a [] hl h3
  · rename_i a b hl
    rcases List.mem_cons.mp h3 with h3 | h3
    · exact simple a [b] hl h3
    · obtain ⟨e, he, rfl⟩ := List.mem_map.mp h3
      obtain ⟨he1, he2⟩ := List.mem_filter.mp he
      obtain ⟨_, _, _, _, b5, b6⟩ := hT e he1
      have := a8 b (by rw [hl]; simp)
      simp [isHeadJ]; omega
  · rename_i a r _ _ hl
    simp at h3
    exact simple _ _ hl h3
theorem movsOf_len (st : Stp) (i : Nat) : (movsOf mk T st i).length ≤ 1 + T.length := by
  unfold movsOf
  split
  · simp
  · simp
  · rename_i a b hl
    rw [List.length_cons, List.length_map]
    have := List.length_filter_le (fun e : Ent => decide (e.hd = (st.g, a))) T
    omega
  · simp
theorem movsF_len (h : Hd) : ∀ (l : List Stp) (i : Nat), (movsF mk T h l i).length ≤ l.length * (1 + T.length)
  | [], _ => by simp [movsF]
  | st :: r, i => by
    have := movsF_len h r (i + 1)
    have h2 := movsOf_len (mk := mk) (T := T) st i
    simp only [movsF, List.length_append, List.length_cons, Nat.succ_mul]
    split
    · omega
    · simp; omega
theorem movs_len (ok : M.Ok) (hT : T.length ≤ 96) (h : Hd) : (movs M mk T h).length ≤ 970 := by
  have h1 := movsF_len (mk := mk) (T := T) h M.steps 0
  have h2 : M.steps.length * (1 + T.length) ≤ 10 * 97 := Nat.mul_le_mul ok.n10 (by omega)
  exact Nat.le_trans h1 h2
/-! ### reachable heads -/
abbrev FD := Hd × Option (Hd × Mov)
abbrev keysD (F : List FD) : List Hd := F.map (·.1)
/-- where each found head comes from -/
structure PredOk (M : Mach) (mk : Int → Bool) (T : List Ent) (S : List Hd) (F : List FD) : Prop where
  nd : (keysD F).Nodup
  starts : ∀ h ∈ S, (h, none) ∈ F
  none' : ∀ h, (h, none) ∈ F → h ∈ S
  pred : ∀ (j : Nat) (h h' : Hd) (mv : Mov), F[j]? = some (h, some (h', mv)) → mv ∈ movs M mk T h' ∧ mv.e = h ∧ ∃ j', j' < j ∧ (keysD F)[j']? = some h'
  box : ∀ h ∈ keysD F, isHeadJ M h.1 h.2 = true
structure ReachOk (M : Mach) (mk : Int → Bool) (T : List Ent) (S : List Hd) (F : List FD) : Prop where
  p : PredOk M mk T S F
  closed : ∀ h ∈ keysD F, ∀ mv ∈ movs M mk T h, mv.e ∈ keysD F
structure ReachP (M : Mach) (mk : Int → Bool) (T : List Ent) (S : List Hd) (F : List FD) (pend : List Hd) : Prop where
  p : PredOk M mk T S F
  sub : ∀ h ∈ pend, h ∈ keysD F
  todo : ∀ h ∈ keysD F, h ∈ pend ∨ ∀ mv ∈ movs M mk T h, mv.e ∈ keysD F
structure ReachI (M : Mach) (mk : Int → Bool) (T : List Ent) (S : List Hd) (F : List FD) (pend : List Hd) (h0 : Hd) (done : List Mov) : Prop where
  p : PredOk M mk T S F
  sub : ∀ h ∈ pend, h ∈ keysD F
  here : h0 ∈ keysD F
  todo : ∀ h ∈ keysD F, h ∈ pend ∨ h = h0 ∨ ∀ mv ∈ movs M mk T h, mv.e ∈ keysD F
  done' : ∀ mv ∈ done, mv.e ∈ keysD F
theorem ReachP.init {S : List Hd} (hS : ∀ h ∈ S, isHeadJ M h.1 h.2 = true) : ReachP M mk T S ((S.foldl ins []).map fun h => (h, none)) (S.foldl ins []) := by
  have hk : keysD ((S.foldl ins []).map fun h => (h, none)) = S.foldl ins [] := by
    unfold keysD
    rw [List.map_map]
    exact List.map_id' _
  have hmem : ∀ h, h ∈ S.foldl ins [] ↔ h ∈ S := fun h => by rw [mem_foldl_ins]; simp
  have nd : ∀ (ys xs : List Hd), xs.Nodup → (ys.foldl ins xs).Nodup := by
    intro ys
    induction ys with
    | nil => intro xs h; exact h
    | cons y ys ih =>
      intro xs h
      rw [List.foldl_cons]
      refine ih _ ?_
      unfold ins
      split
      · exact h
      · rename_i hn; exact nodup_snoc h hn
  refine ⟨⟨?_, ?_, ?_, ?_, ?_⟩, ?_, ?_⟩
  · rw [hk]; exact nd S [] List.nodup_nil
  · intro h hh
    exact List.mem_map.mpr ⟨h, (hmem h).mpr hh, rfl⟩
  · intro h hh
    obtain ⟨x, hx, e⟩ := List.mem_map.mp hh
    cases e
    exact (hmem h).mp hx
  · intro j h h' mv hj
    rw [List.getElem?_map] at hj
    cases q : (S.foldl ins [])[j]? with
    | none => rw [q] at hj; cases hj
    | some x => rw [q] at hj; cases hj
  · intro h hh
    rw [hk] at hh
    exact hS h ((hmem h).mp hh)
  · intro h hh; rw [hk]; exact hh
  · intro h hh; rw [hk] at hh; exact .inl hh
theorem ReachP.pop {S : List Hd} {F : List FD} {pend : List Hd} {h : Hd} (r : ReachP M mk T S F (pend ++ [h])) : ReachI M mk T S F pend h [] where
  p := r.p
  sub := fun x hx => r.sub x (List.mem_append_left _ hx)
  here := r.sub h (by simp)
  todo := fun x hx => by
    rcases r.todo x hx with q | q
    · rcases List.mem_append.mp q with q | q
      · exact .inl q
      · exact .inr (.inl (by simpa using q))
    · exact .inr (.inr q)
  done' := fun mv hm => by cases hm
theorem ReachI.old {S : List Hd} {F : List FD} {pend : List Hd} {h : Hd} {done : List Mov} (r : ReachI M mk T S F pend h done) {mv : Mov} (hm : mv.e ∈ keysD F) : ReachI M mk T S F pend h (done ++ [mv]) where
  p := r.p
  sub := r.sub
  here := r.here
  todo := r.todo
  done' := fun x hx => by
    rcases List.mem_append.mp hx with q | q
    · exact r.done' x q
    · simp at q; subst q; exact hm
theorem ReachI.new {S : List Hd} {F : List FD} {pend : List Hd} {h : Hd} {done : List Mov} (r : ReachI M mk T S F pend h done) {mv : Mov} (hv : mv ∈ movs M mk T h) (hm : mv.e ∉ keysD F) (hb : isHeadJ M mv.e.1 mv.e.2 = true) :
    ReachI M mk T S (F ++ [(mv.e, some (h, mv))]) (pend ++ [mv.e]) h (done ++ [mv]) := by
  have hk : keysD (F ++ [(mv.e, some (h, mv))]) = keysD F ++ [mv.e] := by simp [keysD]
  have lk : (keysD F).length = F.length := List.length_map ..
  refine ⟨⟨?_, ?_, ?_, ?_, ?_⟩, ?_, ?_, ?_, ?_⟩
  · rw [hk]; exact nodup_snoc r.p.nd hm
  · intro x hx; exact List.mem_append_left _ (r.p.starts x hx)
  · intro x hx
    rcases List.mem_append.mp hx with q | q
    · exact r.p.none' x q
    · simp at q
  · intro j x x' mv' hj
    rw [hk]
    by_cases hlt : j < F.length
    · rw [List.getElem?_append_left hlt] at hj
      obtain ⟨h1, h2, j', l1, l2⟩ := r.p.pred j x x' mv' hj
      have hl := (List.getElem?_eq_some_iff.mp l2).1
      exact ⟨h1, h2, j', l1, by rw [List.getElem?_append_left hl]; exact l2⟩
    · have hl := (List.getElem?_eq_some_iff.mp hj).1
      rw [List.length_append, List.length_singleton] at hl
      have hjk : j = F.length := by omega
      subst hjk
      rw [List.getElem?_concat_length] at hj
      cases hj
      obtain ⟨j', hj'⟩ := List.mem_iff_getElem?.mp r.here
      have hl := (List.getElem?_eq_some_iff.mp hj').1
      exact ⟨hv, rfl, j', by omega, by rw [List.getElem?_append_left hl]; exact hj'⟩
  · intro x hx
    rw [hk] at hx
    rcases List.mem_append.mp hx with q | q
    · exact r.p.box x q
    · simp at q; subst q; exact hb
  · intro x hx
    rw [hk]
    rcases List.mem_append.mp hx with q | q
    · exact List.mem_append_left _ (r.sub x q)
    · exact List.mem_append_right _ q
  · rw [hk]; exact List.mem_append_left _ r.here
  · intro x hx
    rw [hk] at hx ⊢
    rcases List.mem_append.mp hx with q | q
    · rcases r.todo x q with q | q | q
      · exact .inl (List.mem_append_left _ q)
      · exact .inr (.inl q)
      · exact .inr (.inr fun mv' hm' => List.mem_append_left _ (q mv' hm'))
    · exact .inl (List.mem_append_right _ q)
  · intro x hx
    rw [hk]
    rcases List.mem_append.mp hx with q | q
    · exact List.mem_append_left _ (r.done' x q)
    · simp at q; subst q; exact List.mem_append_right _ (by simp)
theorem ReachI.fin {S : List Hd} {F : List FD} {pend : List Hd} {h : Hd} (r : ReachI M mk T S F pend h (movs M mk T h)) : ReachP M mk T S F pend where
  p := r.p
  sub := r.sub
  todo := fun x hx => by
    rcases r.todo x hx with q | q | q
    · exact .inl q
    · subst q; exact .inr r.done'
    · exact .inr q
theorem ReachP.ok {S : List Hd} {F : List FD} (r : ReachP M mk T S F []) : ReachOk M mk T S F := ⟨r.p, fun h hh => (r.todo h hh).elim (fun z => by cases z) id⟩
theorem PredOk.len (ok : M.Ok) {S : List Hd} {F : List FD} (p : PredOk M mk T S F) : F.length ≤ 12 := by
  have := nodup_sub p.nd fun x hx => mem_hdBox (p.box x hx)
  rw [show (keysD F).length = F.length from List.length_map ..] at this
  exact Nat.le_trans this (len_hdBox ok)
/-! ### ways back to a start -/
inductive Chn (F : List FD) : Hd → List Mov → Hd → Prop where
  | root {h : Hd} : (h, none) ∈ F → Chn F h [] h
  | step {h h' r : Hd} {mv : Mov} {ms : List Mov} : (h, some (h', mv)) ∈ F → Chn F h' ms r → Chn F h (ms ++ [mv]) r
theorem PredOk.chn {S : List Hd} {F : List FD} (p : PredOk M mk T S F) : ∀ (n j : Nat) (h : Hd), j < n → (keysD F)[j]? = some h → ∃ ms r, Chn F h ms r ∧ ms.length ≤ j
  | 0, _, _, hl, _ => absurd hl (Nat.not_lt_zero _)
  | n + 1, j, h, hl, hj => by
    unfold keysD at hj
    rw [List.getElem?_map] at hj
    cases q : F[j]? with
    | none => rw [q] at hj; cases hj
    | some x =>
      rw [q] at hj
      obtain ⟨h1, o⟩ := x
      cases hj
      cases o with
      | none => exact ⟨[], h1, .root (List.mem_of_getElem? q), Nat.zero_le _⟩
      | some y =>
        obtain ⟨h', mv⟩ := y
        obtain ⟨_, _, j', l1, l2⟩ := p.pred j h1 h' mv q
        obtain ⟨ms, r, c, l⟩ := p.chn n j' h' (by omega) l2
        exact ⟨ms ++ [mv], r, .step (List.mem_of_getElem? q) c, by rw [List.length_append, List.length_singleton]; omega⟩
theorem PredOk.path {S : List Hd} {F : List FD} (p : PredOk M mk T S F) {h r : Hd} {ms : List Mov} (c : Chn F h ms r) : Path M mk T r ms h ∧ (r, none) ∈ F := by
  induction c with
  | root h => exact ⟨.nil _, h⟩
  | step hm _ ih =>
    obtain ⟨j, hj⟩ := List.mem_iff_getElem?.mp hm
    obtain ⟨h1, h2, _⟩ := p.pred j _ _ _ hj
    exact ⟨by rw [← h2]; exact ih.1.snoc h1, ih.2⟩
theorem PredOk.chain {S : List Hd} {F : List FD} (p : PredOk M mk T S F) {h : Hd} (hh : h ∈ keysD F) : ∃ ms r, Chn F h ms r ∧ ms.length ≤ F.length := by
  obtain ⟨j, hj⟩ := List.mem_iff_getElem?.mp hh
  have hl := (List.getElem?_eq_some_iff.mp hj).1
  rw [show (keysD F).length = F.length from List.length_map ..] at hl
  obtain ⟨ms, r, c, l⟩ := p.chn (j + 1) j h (Nat.lt_succ_self _) hj
  exact ⟨ms, r, c, by omega⟩
theorem ReachOk.path_in {S : List Hd} {F : List FD} (r : ReachOk M mk T S F) {h x : Hd} {ms : List Mov} (p : Path M mk T h ms x) : h ∈ keysD F → x ∈ keysD F := by
  induction p with
  | nil h => exact id
  | cons h1 _ ih => exact fun hh => ih (r.closed _ hh _ h1)
/-- no marked move lies on a ring -/
def NoRing (M : Mach) (mk : Int → Bool) (T : List Ent) (F : List FD) : Prop := ∀ h ∈ keysD F, ∀ mv ∈ movs M mk T h, mv.m = true → ¬ ∃ ms, Path M mk T mv.e ms h
theorem no_way {F : List FD} {h x : Hd} (r : ReachOk M mk T [x] F) (hn : h ∉ keysD F) : ¬ ∃ ms, Path M mk T x ms h := fun ⟨ms, p⟩ => hn (r.path_in p (List.mem_map.mpr ⟨(x, none), r.p.starts x (by simp), rfl⟩))
/-! ### ranks -/
inductive Mch (M : Mach) (mk : Int → Bool) (T : List Ent) : Hd → List Hd → Prop where
  | nil (h : Hd) : Mch M mk T h []
  | free {h : Hd} {mv : Mov} {L : List Hd} : mv ∈ movs M mk T h → mv.m = false → Mch M mk T mv.e L → Mch M mk T h L
  | mark {h : Hd} {mv : Mov} {L : List Hd} : mv ∈ movs M mk T h → mv.m = true → Mch M mk T mv.e L → Mch M mk T h (h :: L)
theorem Mch.path {h : Hd} {L : List Hd} (c : Mch M mk T h L) : ∀ x ∈ L, ∃ ms, Path M mk T h ms x := by
  induction c with
  | nil h => intro x hx; cases hx
  | free h1 _ _ ih => intro x hx; obtain ⟨ms, p⟩ := ih x hx; exact ⟨_, .cons h1 p⟩
  | mark h1 _ _ ih =>
    intro x hx
    rcases List.mem_cons.mp hx with rfl | hx
    · exact ⟨[], .nil _⟩
    · obtain ⟨ms, p⟩ := ih x hx; exact ⟨_, .cons h1 p⟩
theorem Mch.bound {S : List Hd} {F : List FD} (ok : M.Ok) (r : ReachOk M mk T S F) (nr : NoRing M mk T F) {h : Hd} {L : List Hd} (c : Mch M mk T h L) (hh : h ∈ keysD F) : L.length ≤ 12 := by
  have key : L.Nodup ∧ ∀ x ∈ L, x ∈ keysD F := by
    induction c with
    | nil h => exact ⟨List.nodup_nil, fun x hx => by cases hx⟩
    | free h1 _ _ ih => exact ih (r.closed _ hh _ h1)
    | mark h1 h2 h3 ih =>
      obtain ⟨n, s⟩ := ih (r.closed _ hh _ h1)
      refine ⟨List.nodup_cons.mpr ⟨fun z => nr _ hh _ h1 h2 (h3.path _ z), n⟩, fun x hx => ?_⟩
      rcases List.mem_cons.mp hx with rfl | hx
      · exact hh
      · exact s x hx
  have := nodup_sub key.1 fun x hx => mem_hdBox (r.p.box x (key.2 x hx))
  exact Nat.le_trans this (len_hdBox ok)
def setR (R : List (Hd × Int)) (h : Hd) (r : Int) : List (Hd × Int) := R.map fun p => if p.1 = h then (p.1, r) else p
theorem setR_keys (R : List (Hd × Int)) (h : Hd) (r : Int) : (setR R h r).map (·.1) = R.map (·.1) := by
  unfold setR
  rw [List.map_map]
  refine List.map_congr_left fun p _ => ?_
  simp only [Function.comp]
  split <;> rfl
theorem rankOf_set (R : List (Hd × Int)) (h : Hd) (r : Int) (x : Hd) : rankOf (setR R h r) x = if x = h then (rankOf R h).map fun _ => r else rankOf R x := by
  unfold rankOf setR
  induction R with
  | nil => simp
  | cons p R ih =>
    simp only [List.map_cons, List.find?_cons]
    by_cases hp : p.1 = h
    · rw [if_pos hp]
      simp only
      by_cases hx : x = h
      · rw [if_pos hx] at ih ⊢
        simp [hp, hx]
      · rw [if_neg hx] at ih ⊢
        have : ¬ p.1 = x := fun z => hx (by rw [← z, hp])
        simp only [decide_eq_false this]
        exact ih
    · rw [if_neg hp]
      by_cases hx : x = h
      · rw [if_pos hx] at ih ⊢
        have : ¬ p.1 = x := fun z => hp (by rw [z, hx])
        simp only [decide_eq_false this, decide_eq_false hp]
        exact ih
      · rw [if_neg hx] at ih ⊢
        by_cases hpx : p.1 = x
        · simp [hpx]
        · simp only [decide_eq_false hpx]
          exact ih
def muR (R : List (Hd × Int)) : Nat := (R.map fun p => (12 - p.2).toNat).sum
theorem muR_set : ∀ {R : List (Hd × Int)} {h : Hd} {r0 r : Int}, (R.map (·.1)).Nodup → rankOf R h = some r0 → r0 < r → r ≤ 12 → muR (setR R h r) < muR R
  | [], _, _, _, _, h, _, _ => by simp [rankOf] at h
  | p :: R, h, r0, r, nd, hr, hlt, hle => by
    rw [List.map_cons, List.nodup_cons] at nd
    unfold rankOf at hr
    rw [List.find?_cons] at hr
    by_cases hp : p.1 = h
    · rw [decide_eq_true hp] at hr
      simp at hr
      have same : setR R h r = R := by
        unfold setR
        conv => rhs; rw [← List.map_id R]
        refine List.map_congr_left fun q hq => ?_
        rw [if_neg (fun z => nd.1 (List.mem_map.mpr ⟨q, hq, z.trans hp.symm⟩))]
        rfl
      have e : setR (p :: R) h r = (p.1, r) :: setR R h r := by unfold setR; rw [List.map_cons, if_pos hp]
      rw [e, same]
      unfold muR
      simp only [List.map_cons, List.sum_cons]
      omega
    · rw [decide_eq_false hp] at hr
      have := muR_set nd.2 (by unfold rankOf; exact hr) hlt hle
      have e : setR (p :: R) h r = p :: setR R h r := by unfold setR; rw [List.map_cons, if_neg hp]
      rw [e]
      unfold muR at this ⊢
      simp only [List.map_cons, List.sum_cons]
      omega
/-- ranks as they grow: keys those found, each rank the count of marked moves of some walk -/
structure RkP (M : Mach) (mk : Int → Bool) (T : List Ent) (F : List FD) (R : List (Hd × Int)) : Prop where
  keys : R.map (·.1) = keysD F
  walk : ∀ h r, rankOf R h = some r → ∃ L, Mch M mk T h L ∧ (L.length : Int) = r
theorem rankOf_some {R : List (Hd × Int)} {h : Hd} : (rankOf R h).isSome = true ↔ h ∈ R.map (·.1) := by
  unfold rankOf
  rw [Option.isSome_map, List.find?_isSome]
  constructor
  · rintro ⟨p, hp, e⟩
    exact List.mem_map.mpr ⟨p, hp, by simpa using e⟩
  · intro z
    obtain ⟨p, hp, e⟩ := List.mem_map.mp z
    exact ⟨p, hp, by simpa using e⟩
theorem RkP.get {F : List FD} {R : List (Hd × Int)} (p : RkP M mk T F R) {h : Hd} (hh : h ∈ keysD F) : ∃ r, rankOf R h = some r := by
  rw [← p.keys] at hh
  exact Option.isSome_iff_exists.mp (rankOf_some.mpr hh)
theorem RkP.init (F : List FD) : RkP M mk T F ((keysD F).map fun h => (h, 0)) where
  keys := by rw [List.map_map]; exact List.map_id' _
  walk := fun h r hr => by
    refine ⟨[], .nil h, ?_⟩
    unfold rankOf at hr
    cases q : ((keysD F).map fun h => (h, (0 : Int))).find? (fun p => decide (p.1 = h)) with
    | none => rw [q] at hr; cases hr
    | some x =>
      rw [q] at hr
      obtain ⟨y, _, e⟩ := List.mem_map.mp (List.mem_of_find?_eq_some q)
      cases hr
      rw [← e]
      rfl
theorem RkP.set {S : List Hd} {F : List FD} {R : List (Hd × Int)} (ok : M.Ok) (ro : ReachOk M mk T S F) (nr : NoRing M mk T F) (p : RkP M mk T F R) {h : Hd} (hh : h ∈ keysD F) {mv : Mov} (hm : mv ∈ movs M mk T h) {r0 r1 : Int} (h0 : rankOf R h = some r0) (h1 : rankOf R mv.e = some r1) (hlt : r0 < r1 + b2i mv.m) :
    RkP M mk T F (setR R h (r1 + b2i mv.m)) ∧ muR (setR R h (r1 + b2i mv.m)) < muR R := by
  obtain ⟨L, c, l⟩ := p.walk _ _ h1
  have new : ∃ L', Mch M mk T h L' ∧ (L'.length : Int) = r1 + b2i mv.m := by
    cases e : mv.m with
    | false => exact ⟨L, .free hm e c, by simp [b2i, l]⟩
    | true => exact ⟨h :: L, .mark hm e c, by simp [b2i]; omega⟩
  obtain ⟨L', c', l'⟩ := new
  have b := c'.bound ok ro nr hh
  refine ⟨⟨by rw [setR_keys]; exact p.keys, fun x r hx => ?_⟩, muR_set (by rw [p.keys]; exact ro.p.nd) h0 hlt (by omega)⟩
  rw [rankOf_set] at hx
  split at hx
  · rename_i e
    rw [h0] at hx
    cases hx
    rw [e]
    exact ⟨L', c', l'⟩
  · exact p.walk x r hx
theorem RkP.ok {S : List Hd} {F : List FD} {R R' : List (Hd × Int)} (ro : ReachOk M mk T S F) (p : RkP M mk T F R) (hall : ∀ h ∈ keysD F, ∀ mv ∈ movs M mk T h, ∀ r r', rankOf R h = some r → rankOf R mv.e = some r' → r' + b2i mv.m ≤ r) (hR : ∀ h, rankOf R' h = rankOf R h) (hp : ∀ q, q ∈ R' ↔ q ∈ R) : RanksOk M mk T (keysD F) R' where
  keys := fun h => by rw [hR, rankOf_some, p.keys]
  nn := fun q hq => by
    have hk := (hp q).mp hq
    have hin : q.1 ∈ keysD F := by rw [← p.keys]; exact List.mem_map.mpr ⟨q, hk, rfl⟩
    have nd : (R.map (·.1)).Nodup := by rw [p.keys]; exact ro.p.nd
    have : rankOf R q.1 = some q.2 := by
      unfold rankOf
      clear hR hall hp
      induction R with
      | nil => cases hk
      | cons a R ih =>
        rw [List.map_cons, List.nodup_cons] at nd
        rw [List.find?_cons]
        rcases List.mem_cons.mp hk with rfl | hk'
        · simp
        · have hne : ¬ a.1 = q.1 := fun z => nd.1 (by rw [z]; exact List.mem_map.mpr ⟨q, hk', rfl⟩)
          rw [decide_eq_false hne]
          have aux : ∀ {R : List (Hd × Int)} {q : Hd × Int}, q ∈ R → (R.map (·.1)).Nodup → (R.find? fun p => decide (p.1 = q.1)).map (·.2) = some q.2 := by
            intro R q
            induction R with
            | nil => intro h; cases h
            | cons b R ih2 =>
              intro h nd
              rw [List.map_cons, List.nodup_cons] at nd
              rw [List.find?_cons]
              rcases List.mem_cons.mp h with rfl | h'
              · simp
              · have hne : ¬ b.1 = q.1 := fun z => nd.1 (by rw [z]; exact List.mem_map.mpr ⟨q, h', rfl⟩)
                rw [decide_eq_false hne]
                exact ih2 h' nd.2
          exact aux hk' nd.2
    obtain ⟨L, _, l⟩ := p.walk _ _ this
    omega
  falls := fun h r hr mv hm => by
    rw [hR] at hr
    have hh : h ∈ keysD F := by rw [← p.keys]; exact rankOf_some.mp (by rw [hr]; rfl)
    obtain ⟨r', hr'⟩ := p.get (ro.closed h hh mv hm)
    exact ⟨r', by rw [hR]; exact hr', hall h hh mv hm r r' hr hr'⟩
end
end PR
end

section
set_option autoImplicit false
/-! Plain mathematics: descents. -/
namespace PR
section
variable {M : Mach} {mk : Int → Bool} {T : List Ent}
abbrev Lev := List (Int × List Ent)
def low1 (es : List Ent) (low : Lev) (e : Ent) : Lev := if e.g ∈ low.map (·.1) then low else low ++ [(e.g, es ++ [e])]
def lowJ (T : List Ent) (l : Int) (low : Lev) (be : Int × List Ent) : Lev := (atHd T (be.1, l)).foldl (low1 be.2) low
def levJ (T : List Ent) (l : Int) (lev : Lev) : Lev := lev.foldl (lowJ T l) []
abbrev Bgn := List (Hd × List Ent)
def bgn1 (l : Int) (B : Bgn) (be : Int × List Ent) : Bgn := if (be.1, l) ∈ B.map (·.1) then B else B ++ [((be.1, l), be.2)]
def bgnJ (l : Int) (lev : Lev) (B : Bgn) : Bgn := lev.foldl (bgn1 l) B
theorem low1_keys (es : List Ent) (low : Lev) (e : Ent) : (low1 es low e).map (·.1) = ins (low.map (·.1)) e.g := by
  unfold low1 ins
  split
  · rfl
  · rw [List.map_append]; rfl
theorem lows_keys (es : List Ent) : ∀ (xs : List Ent) (low : Lev), (xs.foldl (low1 es) low).map (·.1) = (xs.map (·.g)).foldl ins (low.map (·.1))
  | [], low => rfl
  | x :: xs, low => by rw [List.foldl_cons, lows_keys es xs, low1_keys, List.map_cons, List.foldl_cons]
theorem gs_at (T : List Ent) (h : Hd) : (atHd T h).map (·.g) = (fromJ T h).map (·.1) := by
  unfold fromJ atHd
  rw [List.map_map]
  rfl
theorem levs_keys (T : List Ent) (l : Int) : ∀ (lev low : Lev), (lev.foldl (lowJ T l) low).map (·.1) = ((lev.map (·.1)).flatMap fun b => (fromJ T (b, l)).map (·.1)).foldl ins (low.map (·.1))
  | [], low => rfl
  | be :: lev, low => by
    rw [List.foldl_cons, levs_keys T l lev, List.map_cons, List.flatMap_cons, List.foldl_append]
    unfold lowJ
    rw [lows_keys, gs_at]
theorem lev_keys (T : List Ent) (l : Int) (lev : Lev) : (levJ T l lev).map (·.1) = nextJ T l (lev.map (·.1)) := levs_keys T l lev []
theorem ins_nd {α : Type} [DecidableEq α] {xs : List α} {a : α} (h : xs.Nodup) : (ins xs a).Nodup := by
  unfold ins
  split
  · exact h
  · rename_i hn; exact nodup_snoc h hn
theorem foldl_ins_nd {α : Type} [DecidableEq α] : ∀ {ys xs : List α}, xs.Nodup → (ys.foldl ins xs).Nodup
  | [], _, h => h
  | y :: ys, xs, h => by rw [List.foldl_cons]; exact foldl_ins_nd (ins_nd h)
/-- what holds of each entry of a level -/
def LevAt (M : Mach) (T : List Ent) (c : Int × List Int) (i : Nat) (x : Int × List Ent) : Prop := x.2.length = i ∧ DChain c.2 x.2 c.1 x.1 ∧ (∀ e ∈ x.2, e ∈ T) ∧ 0 ≤ x.1 ∧ x.1 < M.st
def CfgOk (M : Mach) (c : Int × List Int) : Prop := 0 ≤ c.1 ∧ c.1 < M.st ∧ (∀ x ∈ c.2, 0 ≤ x ∧ x < M.lt) ∧ c.2.length ≤ 5
theorem low1_at {c : Int × List Int} {i : Nat} {l : Int} (hT : ∀ e ∈ T, EntIn M e) (hl : c.2[i]? = some l) {be : Int × List Ent} (hb : LevAt M T c i be) {low : Lev} (h : ∀ x ∈ low, LevAt M T c (i + 1) x) {e : Ent} (he : e ∈ atHd T (be.1, l)) : ∀ x ∈ low1 be.2 low e, LevAt M T c (i + 1) x := by
  obtain ⟨he1, he2⟩ := mem_atHd.mp he
  obtain ⟨h1, h2, h3, h4, h5⟩ := hb
  unfold low1
  split
  · exact h
  · intro x hx
    rcases List.mem_append.mp hx with hx | hx
    · exact h x hx
    · simp at hx; subst hx
      obtain ⟨_, _, _, _, a, b⟩ := hT e he1
      refine ⟨by simp [h1], h2.snoc (by rw [h1]; exact hl) (congrArg Prod.fst he2) (congrArg Prod.snd he2), fun y hy => ?_, a, b⟩
      rcases List.mem_append.mp hy with hy | hy
      · exact h3 y hy
      · simp at hy; subst hy; exact he1
theorem low_at {c : Int × List Int} {i : Nat} {l : Int} (hT : ∀ e ∈ T, EntIn M e) (hl : c.2[i]? = some l) {be : Int × List Ent} (hb : LevAt M T c i be) : ∀ {xs : List Ent} {low : Lev}, (∀ x ∈ xs, x ∈ atHd T (be.1, l)) → (∀ x ∈ low, LevAt M T c (i + 1) x) → ∀ x ∈ xs.foldl (low1 be.2) low, LevAt M T c (i + 1) x
  | [], _, _, h => h
  | e :: xs, low, hx, h => by
    rw [List.foldl_cons]
    exact low_at hT hl hb (fun y hy => hx y (List.mem_cons_of_mem _ hy)) (low1_at hT hl hb h (hx e List.mem_cons_self))
theorem levs_at {c : Int × List Int} {i : Nat} {l : Int} (hT : ∀ e ∈ T, EntIn M e) (hl : c.2[i]? = some l) : ∀ {lev low : Lev}, (∀ x ∈ lev, LevAt M T c i x) → (∀ x ∈ low, LevAt M T c (i + 1) x) → ∀ x ∈ lev.foldl (lowJ T l) low, LevAt M T c (i + 1) x
  | [], _, _, h => h
  | be :: lev, low, hlev, h => by
    rw [List.foldl_cons]
    exact levs_at hT hl (fun y hy => hlev y (List.mem_cons_of_mem _ hy)) (low_at hT hl (hlev be List.mem_cons_self) (fun _ z => z) h)
/-- at the i-th letter -/
structure DescP (M : Mach) (T : List Ent) (c : Int × List Int) (i : Nat) (lev : Lev) (B : Bgn) : Prop where
  nd : (lev.map (·.1)).Nodup
  at' : ∀ x ∈ lev, LevAt M T c i x
  desc : DescOk T c B
  box : ∀ h ∈ B.map (·.1), isHeadJ M h.1 h.2 = true
  starts : ∀ F : List Hd, (∀ h ∈ B.map (·.1), h ∈ F) → StartsIn T F (c.2.drop i) (lev.map (·.1)) → StartsIn T F c.2 [c.1]
theorem DescP.init {c : Int × List Int} (hc : CfgOk M c) : DescP M T c 0 [(c.1, [])] [] where
  nd := by simp
  at' := fun x hx => by
    simp at hx; subst hx
    exact ⟨rfl, by show DChain c.2 [] c.1 c.1; cases c.2 <;> rfl, by simp, hc.1, hc.2.1⟩
  desc := ⟨by simp, fun h es he => by cases he⟩
  box := by simp
  starts := fun F _ h => by simpa using h
theorem bgn_ok {c : Int × List Int} {i : Nat} {l : Int} (hl : c.2[i]? = some l) : ∀ {lev : Lev} {B : Bgn}, (∀ x ∈ lev, LevAt M T c i x) → DescOk T c B → DescOk T c (bgnJ l lev B)
  | [], _, _, h => h
  | be :: lev, B, hlev, h => by
    unfold bgnJ
    rw [List.foldl_cons]
    refine bgn_ok hl (fun y hy => hlev y (List.mem_cons_of_mem _ hy)) ?_
    obtain ⟨h1, h2, h3, h4, h5⟩ := hlev be List.mem_cons_self
    unfold bgn1
    split
    · exact h
    · rename_i hn
      refine ⟨?_, fun hh es he => ?_⟩
      · rw [List.map_append]; exact nodup_snoc h.nd hn
      · rcases List.mem_append.mp he with he | he
        · exact h.ok hh es he
        · simp at he
          obtain ⟨rfl, rfl⟩ := he
          have := (List.getElem?_eq_some_iff.mp hl).1
          exact ⟨h3, by omega, h2, by rw [h1]; exact hl⟩
theorem bgn_keys (l : Int) : ∀ (lev : Lev) (B : Bgn) (h : Hd), h ∈ (bgnJ l lev B).map (·.1) ↔ h ∈ B.map (·.1) ∨ ∃ b ∈ lev.map (·.1), h = (b, l)
  | [], B, h => by simp [bgnJ]
  | be :: lev, B, h => by
    have e : bgnJ l (be :: lev) B = bgnJ l lev (bgn1 l B be) := rfl
    have h1 : h ∈ (bgn1 l B be).map (·.1) ↔ h ∈ B.map (·.1) ∨ h = (be.1, l) := by
      unfold bgn1
      split
      · rename_i hin
        constructor
        · exact .inl
        · rintro (q | rfl)
          · exact q
          · exact hin
      · rw [List.map_append, List.mem_append]
        simp
    rw [e, bgn_keys l lev, h1, List.map_cons]
    constructor
    · rintro ((q | q) | ⟨b, hb, q⟩)
      · exact .inl q
      · exact .inr ⟨be.1, List.mem_cons_self, q⟩
      · exact .inr ⟨b, List.mem_cons_of_mem _ hb, q⟩
    · rintro (q | ⟨b, hb, q⟩)
      · exact .inl (.inl q)
      · rcases List.mem_cons.mp hb with rfl | hb
        · exact .inl (.inr q)
        · exact .inr ⟨b, hb, q⟩
theorem DescP.step {c : Int × List Int} (hc : CfgOk M c) (hT : ∀ e ∈ T, EntIn M e) {i : Nat} {l : Int} {lev : Lev} {B : Bgn} (hl : c.2[i]? = some l) (p : DescP M T c i lev B) : DescP M T c (i + 1) (levJ T l lev) (bgnJ l lev B) where
  nd := by rw [lev_keys]; exact foldl_ins_nd List.nodup_nil
  at' := levs_at hT hl p.at' (fun x hx => by cases hx)
  desc := bgn_ok hl p.at' p.desc
  box := fun h hh => by
    rcases (bgn_keys l lev B h).mp hh with q | ⟨b, hb, rfl⟩
    · exact p.box h q
    · obtain ⟨x, hx, rfl⟩ := List.mem_map.mp hb
      obtain ⟨_, _, _, a, b⟩ := p.at' x hx
      have := hc.2.2.1 l (List.mem_of_getElem? hl)
      simp [isHeadJ]; omega
  starts := fun F hF hs => by
    refine p.starts F (fun h hh => hF h ((bgn_keys l lev B h).mpr (.inl hh))) ?_
    obtain ⟨hlt, e⟩ := List.getElem?_eq_some_iff.mp hl
    rw [List.drop_eq_getElem_cons hlt, e]
    refine ⟨fun b hb => hF _ ((bgn_keys l lev B _).mpr (.inr ⟨b, hb, rfl⟩)), ?_⟩
    rw [lev_keys] at hs
    exact hs
theorem DescP.fin {c : Int × List Int} {lev : Lev} {B : Bgn} (p : DescP M T c c.2.length lev B) {F : List Hd} (hF : ∀ h ∈ B.map (·.1), h ∈ F) : StartsIn T F c.2 [c.1] := p.starts F hF (by rw [List.drop_length]; exact trivial)
theorem lev_len (ok : M.Ok) {c : Int × List Int} {i : Nat} {lev : Lev} (nd : (lev.map (·.1)).Nodup) (h : ∀ x ∈ lev, LevAt M T c i x) : lev.length ≤ 4 := by
  have := nodup_sub nd (m := rng M.st) fun x hx => by
    obtain ⟨y, hy, rfl⟩ := List.mem_map.mp hx
    obtain ⟨_, _, _, a, b⟩ := h y hy
    exact mem_rng a b
  rw [List.length_map, len_rng] at this
  have := ok.st4
  omega
end
/-! ### rows: what is missing, and how long the stack of them lasts -/
def restJ (PK ps : List Ent) : List Ent := ps.filter fun p => decide (p ∉ PK)
def ordE (K : List FE) (e : Ent) : Nat := (keysE K).idxOf e
def topJ (K : List FE) (PK pend : List Ent) : Nat := match pend.getLast? with
  | none => 0
  | some e => if e ∈ PK then 3 * K.length else 3 * ordE K e
def muJ (K : List FE) (PK pend : List Ent) : Nat := (3 * K.length + 1) * (K.length - PK.length) + topJ K PK pend + pend.length
theorem top_le (K : List FE) (PK pend : List Ent) (h : ∀ e ∈ pend, e ∈ keysE K) : topJ K PK pend ≤ 3 * K.length := by
  unfold topJ
  split
  · exact Nat.zero_le _
  · rename_i e he
    split
    · exact Nat.le_refl _
    · have hm := h e (List.mem_of_getLast? he)
      have := List.idxOf_lt_length_of_mem hm
      unfold ordE
      rw [show (keysE K).length = K.length from List.length_map ..] at this
      omega
theorem mu_pop {K : List FE} {PK pend : List Ent} {e : Ent} (h : ∀ x ∈ pend, x ∈ keysE K) (he : e ∈ PK) : muJ K PK pend < muJ K PK (pend ++ [e]) := by
  have h1 := top_le K PK pend h
  have h2 : topJ K PK (pend ++ [e]) = 3 * K.length := by unfold topJ; simp [he]
  unfold muJ
  rw [h2, List.length_append, List.length_singleton]
  omega
theorem mu_put {K : List FE} {PK pend : List Ent} {e : Ent} (h : ∀ x ∈ pend, x ∈ keysE K) (hl : PK.length < K.length) : muJ K (PK ++ [e]) pend < muJ K PK (pend ++ [e]) := by
  have h1 := top_le K (PK ++ [e]) pend h
  unfold muJ
  rw [List.length_append, List.length_append, List.length_singleton]
  have h3 : K.length - PK.length = (K.length - (PK.length + 1)) + 1 := by omega
  rw [h3, Nat.mul_add]
  omega
theorem mu_push {K : List FE} {PK pend ps : List Ent} {e p : Ent} (he : e ∉ PK) (hps : ps.length ≤ 2) (hlast : ps.getLast? = some p) (hp : p ∉ PK) (hord : ordE K p < ordE K e) : muJ K PK (pend ++ [e] ++ ps) < muJ K PK (pend ++ [e]) := by
  have h2 : topJ K PK (pend ++ [e]) = 3 * ordE K e := by unfold topJ; simp [he]
  have h3 : topJ K PK (pend ++ [e] ++ ps) = 3 * ordE K p := by
    unfold topJ
    have : (pend ++ [e] ++ ps).getLast? = some p := by
      rw [List.getLast?_append, hlast]; rfl
    rw [this]
    simp [hp]
  unfold muJ
  rw [h2, h3]
  simp only [List.length_append]
  omega
theorem ord_lt {K : List FE} (nd : (keysE K).Nodup) {j j' : Nat} {e p : Ent} (h1 : (keysE K)[j]? = some e) (h2 : (keysE K)[j']? = some p) (hl : j' < j) : ordE K p < ordE K e := by
  have e1 : ordE K e = j := nd_at nd (idx_at (List.mem_of_getElem? h1)) h1
  have e2 : ordE K p = j' := nd_at nd (idx_at (List.mem_of_getElem? h2)) h2
  omega
end PR
end

section
set_option Elab.async false
set_option maxRecDepth 100000
set_option maxHeartbeats 4000000
set_option linter.all false
/-! Dicts whose keys are tuples of ints and bools, tracked as HO.ext. -/
namespace PX
open PySem PySem.Spec PyProof.Rows L2 PR

/-- a key that is written as a tuple of ints and bools -/
class DKey (κ : Type) where
  vs : κ → List V
  lf : κ → List Leaf
  inj : ∀ a b, lf a = lf b → a = b
  ok : ∀ (P : Program) (w : World) (k : κ) (us : List Value), Vals (vs k) us → ItemsAre (leafKind P w) (lf k) us
theorem leaf_int {P : Program} {w : World} {i : Int} {u : Value} (r : RelV (.int i) u) : (leafKind P w).is (.num i) u = true := by
  obtain ⟨t, rfl⟩ := r
  exact decide_eq_true rfl
theorem leaf_bl {P : Program} {w : World} {b : Bool} {u : Value} (r : RelV (.bl b) u) : (leafKind P w).is (.num (PR.b2i b)) u = true := by
  cases r
  exact decide_eq_true rfl
instance : DKey Hd where
  vs := fun h => [.int h.1, .int h.2]
  lf := fun h => [.num h.1, .num h.2]
  inj := fun a b e => by
    injection e with e1 e2
    injection e2 with e2 _
    injection e1 with e1
    injection e2 with e2
    exact Prod.ext e1 e2
  ok := fun P w k us r => by
    cases r with
    | cons r1 r =>
      cases r with
      | cons r2 r =>
        cases r
        exact .cons (leaf_int r1) (.cons (leaf_int r2) .nil)
theorem PR_b2i_inj {a b : Bool} (e : PR.b2i a = PR.b2i b) : a = b := by
  cases a <;> cases b <;> first | rfl | exact absurd e (by decide)
instance : DKey Ent where
  vs := fun e => [.int e.s, .int e.l, .int e.g, .bl e.f]
  lf := fun e => [.num e.s, .num e.l, .num e.g, .num (PR.b2i e.f)]
  inj := fun a b e => by
    cases a
    cases b
    simp only [List.cons.injEq, Leaf.num.injEq, and_true] at e
    obtain ⟨rfl, rfl, rfl, e4⟩ := e
    rw [PR_b2i_inj e4]
  ok := fun P w k us r => by
    cases r with
    | cons r1 r =>
      cases r with
      | cons r2 r =>
        cases r with
        | cons r3 r =>
          cases r with
          | cons r4 r =>
            cases r
            exact .cons (leaf_int r1) (.cons (leaf_int r2) (.cons (leaf_int r3) (.cons (leaf_bl r4) .nil)))

abbrev XKind (P : Program) (w : World) : HeapKind P w (List Leaf) := tupleKind (leafKind P w)
/-- the object of a dict with the entries xs -/
def dxO (P : Program) (w : World) (a : Addr) (xs : List (List Leaf × Addr × Value)) : HO := .ext fun h => (a == sysModules) = false ∧ xs.length ≤ sizeLine ∧
  ∃ o es ep, h.get? a = some o ∧ o.ExactDict ∧ o.data = .dict es ep ∧ es.toList = xs.map (entryOfKey (XKind P w)) ∧ (xs.map (·.1)).Nodup
theorem dxO_ok {P : Program} {w : World} {H : Hp} {h : Heap} {a : Addr} {xs : List (List Leaf × Addr × Value)} (h1 : (a == sysModules) = false) (h2 : xs.length ≤ sizeLine) (dd : h.DictOfH (XKind P w) a xs) : ObjOk P w H h a (dxO P w a xs) := by
  obtain ⟨o, es, ep, e1, e2, e3, e4, _, e5⟩ := dd
  refine ⟨⟨h1, h2, o, es, ep, e1, e2, e3, e4, e5⟩, ⟨o, e1⟩, ?_⟩
  rintro g1 g2 ⟨q1, q2, o', es', ep', f1, f2⟩ k
  exact ⟨q1, q2, o', es', ep', k _ f1, f2⟩
section
variable {κ : Type} [DecidableEq κ] [DKey κ]
/-- the entries xs tell kvs -/
abbrev DXe (H : Hp) : List (κ × V) → List (List Leaf × Addr × Value) → Prop := Paired fun p q => DKey.lf p.1 = q.1 ∧ H q.2.1 = some (.tup (DKey.vs p.1)) ∧ RelV p.2 q.2.2
theorem lf_iff {a b : κ} : DKey.lf a = DKey.lf b ↔ a = b := ⟨DKey.inj a b, fun e => by rw [e]⟩
theorem DXe.val {H : Hp} {kvs : List (κ × V)} {xs : List (List Leaf × Addr × Value)} (r : DXe H kvs xs) (k : κ) : RelO (valV kvs k) ((atKey xs (DKey.lf k)).map (·.2)) := by
  induction r with
  | nil => exact True.intro
  | @cons p q ps qs h t ih =>
    obtain ⟨h1, _, h2⟩ := h
    by_cases e : p.1 = k
    · have e' : q.1 = DKey.lf k := by rw [← h1, e]
      have b : atKey (q :: qs) (DKey.lf k) = some q.2 := by simp [atKey, List.find?_cons, e']
      rw [valV_pos e, b]; exact h2
    · have e' : ¬ q.1 = DKey.lf k := fun z => e (lf_iff.mp (h1.trans z))
      have b : atKey (q :: qs) (DKey.lf k) = atKey qs (DKey.lf k) := by simp [atKey, List.find?_cons, e']
      rw [valV_neg e, b]; exact ih
theorem DXe.repl {H : Hp} {kvs : List (κ × V)} {xs : List (List Leaf × Addr × Value)} (r : DXe H kvs xs) (k : κ) {y : V} {u : Value} (ry : RelV y u) :
    DXe H (kvs.map fun kv => if kv.1 = k then (kv.1, y) else kv) (xs.map (putAt (DKey.lf k) u)) := by
  induction r with
  | nil => exact .nil
  | @cons p q ps qs h t ih =>
    rw [List.map_cons, List.map_cons]
    refine .cons ?_ ih
    obtain ⟨h1, h2, h3⟩ := h
    unfold putAt
    by_cases e : p.1 = k
    · rw [if_pos e, if_pos (by rw [← h1, e])]; exact ⟨h1, h2, ry⟩
    · rw [if_neg e, if_neg (fun z => e (lf_iff.mp (h1.trans z)))]; exact ⟨h1, h2, h3⟩
theorem DXe.put {H : Hp} {kvs : List (κ × V)} {xs : List (List Leaf × Addr × Value)} (r : DXe H kvs xs) (k : κ) {b : Addr} {y : V} {u : Value} (hb : H b = some (.tup (DKey.vs k))) (ry : RelV y u) :
    DXe H (putK kvs k y) (storedH xs (DKey.lf k) b u) := by
  have e : (kvs.any fun kv => decide (kv.1 = k)) = (atKey xs (DKey.lf k)).isSome := by
    rw [valV_any, (r.val k).isSome_eq, Option.isSome_map]
  unfold putK storedH
  rw [e]
  by_cases q : (atKey xs (DKey.lf k)).isSome = true
  · rw [if_pos q, if_pos q]; exact r.repl k ry
  · rw [if_neg q, if_neg q]; exact Paired.snoc r ⟨rfl, hb, ry⟩
theorem DXe.keeps {H H' : Hp} {kvs : List (κ × V)} {xs : List (List Leaf × Addr × Value)} (r : DXe H kvs xs) (ht : ∀ b ys, H b = some (.tup ys) → H' b = some (.tup ys)) : DXe H' kvs xs :=
  Paired.mapP r fun _ _ z => ⟨z.1, ht _ _ z.2.1, z.2.2⟩
/-- at a stands a dict of kvs: to be read; to be written too -/
def DX (P : Program) (w : World) (H : Hp) (a : Addr) (kvs : List (κ × V)) : Prop := ∃ xs, Rd H a (dxO P w a xs) ∧ DXe H kvs xs
def DXm (P : Program) (w : World) (H : Hp) (a : Addr) (kvs : List (κ × V)) : Prop := ∃ xs, H a = some (dxO P w a xs) ∧ DXe H kvs xs
theorem DXm.rd {P : Program} {w : World} {H : Hp} {a : Addr} {kvs : List (κ × V)} (d : DXm P w H a kvs) : DX P w H a kvs := let ⟨xs, h1, h2⟩ := d; ⟨xs, .inl h1, h2⟩
theorem DXm.ext {P : Program} {w : World} {H : Hp} {a : Addr} {kvs : List (κ × V)} (d : DXm P w H a kvs) : ∃ φ, H a = some (.ext φ) := let ⟨_, h1, _⟩ := d; ⟨_, h1⟩
/-- the heap behind a store -/
def DXput (P : Program) (w : World) (H : Hp) (a : Addr) (kvs : List (κ × V)) (H' : Hp) : Prop := ∃ xs, H' = upd H a (dxO P w a xs) ∧ DXe H kvs xs
section
variable {P : Program} {w : World} {H : Hp} {h : Heap} {a b : Addr} {kvs : List (κ × V)} {k : κ}
theorem xkey_of (ok : HOk P w H h) (e : H b = some (.tup (DKey.vs k))) : (XKind P w).is h (DKey.lf k) b := by
  obtain ⟨_, its, r, o, h1, h2, n, h3⟩ := (show ObjOk P w H h b (.tup (DKey.vs k)) from ok b _ e)
  exact ⟨o, its.toArray, n, h1, h2, h3, by simpa using DKey.ok P w k its r⟩
theorem dx_raw {xs : List (List Leaf × Addr × Value)} (ok : HOk P w H h) (e : Rd H a (dxO P w a xs)) (r : DXe H kvs xs) :
    (a == sysModules) = false ∧ xs.length ≤ sizeLine ∧ h.DictOfH (XKind P w) a xs := by
  obtain ⟨⟨z, y, o, es, ep, h1, h2, h3, h4, h5⟩, _, _⟩ := (show ObjOk P w H h a (dxO P w a xs) from e.ok ok)
  refine ⟨z, y, o, es, ep, h1, h2, h3, h4, fun x hx => ?_, h5⟩
  have all : ∀ {l : List (κ × V)} {m : List (List Leaf × Addr × Value)}, DXe H l m → ∀ x ∈ m, (XKind P w).is h x.1 x.2.1 := by
    intro l m q
    induction q with
    | nil => intro x hx; exact nomatch hx
    | @cons p q ps qs hq t ih =>
      intro x hx
      rcases List.mem_cons.mp hx with e | hx
      · subst e
        rw [← hq.1]
        exact xkey_of ok hq.2.1
      · exact ih x hx
  exact all r x hx
theorem dx_rd (ok : HOk P w H h) (d : DX P w H a kvs) : (a == sysModules) = false ∧ kvs.length ≤ sizeLine ∧ ∃ xs, DXe H kvs xs ∧ h.DictOfH (XKind P w) a xs := by
  obtain ⟨xs, e, r⟩ := d
  obtain ⟨z, y, dd⟩ := dx_raw ok e r
  exact ⟨z, by rw [Paired.length r]; exact y, xs, r, dd⟩
theorem DX.len {kvs : List (κ × V)} (ok : HOk P w H h) (d : DX P w H a kvs) : kvs.length ≤ sizeLine := (dx_rd ok d).2.1
theorem dx_nodup {xs : List (List Leaf × Addr × Value)} (r : DXe H kvs xs) (hn : (xs.map (·.1)).Nodup) : (kvs.map (·.1)).Nodup := by
  have e : xs.map (·.1) = kvs.map (fun p => DKey.lf p.1) := by
    induction r with
    | nil => rfl
    | cons h t ih =>
      rw [List.map_cons, List.nodup_cons] at hn
      rw [List.map_cons, List.map_cons, ih hn.2, h.1]
  rw [e] at hn
  have e2 : kvs.map (fun p => DKey.lf p.1) = (kvs.map (·.1)).map DKey.lf := by rw [List.map_map]; rfl
  rw [e2] at hn
  exact List.Pairwise.of_map DKey.lf (fun a b hab e => hab (by rw [e])) hn
end

/-! ### by values, in the heap -/
section
variable {X : Cx} {pins : List (Addr × Obj)} {σ : L2.St} {H : Hp} {s : Shared} {a b : Addr} {kvs : List (κ × V)} {k : κ} {v : V} {r : Value} {A : Around} {E : Value → Shared → Prop}
theorem RelO.some_of' {v : V} {o : Option Value} (r : RelO (some v) o) : ∃ u, o = some u ∧ RelV v u := by
  cases o with
  | none => exact (show False from r).elim
  | some u => exact ⟨u, rfl, r⟩
theorem RelO.none_of' {o : Option Value} (r : RelO none o) : o = none := by
  cases o with
  | none => rfl
  | some u => exact (show False from r).elim
theorem x_getItem {Q : Value → Shared → Prop} (hu : A.units + 1 < cLine) (I : Inv X pins σ H s) (d : DX X.prog X.w H a kvs) (eb : H b = some (.tup (DKey.vs k))) (l : valV kvs k = some v) (h : ∀ w' s', Inv X pins σ H s' → RelV v w' → Q w' s') :
    wpAny (model X.prog X.w) A (getItem (.ref a) (.ref b)) Q E s := by
  obtain ⟨_, _, xs, rel, dd⟩ := dx_rd I.hok d
  obtain ⟨w', hw, rw'⟩ := RelO.some_of' (v := v) (o := (atKey xs (DKey.lf k)).map (·.2)) (by rw [← l]; exact rel.val k)
  obtain ⟨p, hp, hp2⟩ := Option.map_eq_some_iff.mp hw
  refine wpAny_getItem_heap (tupleKind_room_in1 hu) (xkey_of I.hok eb) dd hp ?_
  rw [hp2]
  exact h w' _ (I.tok _) rw'
theorem x_in {Q : Value → Shared → Prop} (hu : A.units + 1 < cLine) (I : Inv X pins σ H s) (d : DX X.prog X.w H a kvs) (eb : H b = some (.tup (DKey.vs k))) (h : ∀ s', Inv X pins σ H s' → Q (.bool (valV kvs k).isSome) s') :
    wpAny (model X.prog X.w) A (compareOp .In (.ref b) (.ref a)) Q E s := by
  obtain ⟨hd, _, xs, rel, dd⟩ := dx_rd I.hok d
  refine wpAny_in_heap (tupleKind_room_in1 hu) (xkey_of I.hok eb) hd dd ?_
  have q := (rel.val k).isSome_eq
  rw [Option.isSome_map] at q
  rw [← q]
  exact h _ (I.tok _)
theorem x_notIn {Q : Value → Shared → Prop} (hu : A.units + 1 < cLine) (I : Inv X pins σ H s) (d : DX X.prog X.w H a kvs) (eb : H b = some (.tup (DKey.vs k))) (h : ∀ s', Inv X pins σ H s' → Q (.bool (!(valV kvs k).isSome)) s') :
    wpAny (model X.prog X.w) A (compareOp .NotIn (.ref b) (.ref a)) Q E s := by
  obtain ⟨hd, _, xs, rel, dd⟩ := dx_rd I.hok d
  refine wpAny_notIn_heap (tupleKind_room_in1 hu) (xkey_of I.hok eb) hd dd ?_
  have q := (rel.val k).isSome_eq
  rw [Option.isSome_map] at q
  rw [← q]
  exact h _ (I.tok _)
theorem x_write {xs : List (List Leaf × Addr × Value)} {b : Addr} {v : V} {u : Value} {h' : Heap} {t' : Nat} (I : Inv X pins σ H s) (e : H a = some (dxO X.prog X.w a xs)) (rel : DXe H kvs xs) (eb : H b = some (.tup (DKey.vs k))) (rv : RelV v u) (hl : kvs.length < sizeLine)
    (dd : h'.DictOfH (XKind X.prog X.w) a (storedH xs (DKey.lf k) b u)) (hs : Heap.SameBut a s.heap h') :
    Inv X pins σ (upd H a (dxO X.prog X.w a (storedH xs (DKey.lf k) b u))) { s with heap := h', toks := t' } := by
  obtain ⟨z, y, _⟩ := dx_raw I.hok (.inl e) rel
  obtain ⟨o, es, ep, ho, _⟩ := id dd
  have hz : (storedH xs (DKey.lf k) b u).length ≤ sizeLine := by
    have h1 := Paired.length (rel.put k eb rv)
    have h2 := length_putK kvs k v
    omega
  exact d_write I (by rw [e]; exact True.intro) hs ⟨o, ho⟩ (dxO_ok z hz dd)
theorem x_setItem {Q : Unit → Shared → Prop} (hu : A.units + 1 < cLine) (I : Inv X pins σ H s) (d : DXm X.prog X.w H a kvs) (eb : H b = some (.tup (DKey.vs k))) (rv : RelV v r) (hl : kvs.length < sizeLine)
    (h : ∀ H' s', DXput X.prog X.w H a (putK kvs k v) H' → Inv X pins σ H' s' → Q () s') : wpAny (model X.prog X.w) A (setItem (.ref a) (.ref b) r) Q E s := by
  obtain ⟨xs, e, rel⟩ := d
  obtain ⟨z, y, dd⟩ := dx_raw I.hok (.inl e) rel
  refine wpAny_setItem_heap (hsz := y) (tupleKind_room_in1 hu) (xkey_of I.hok eb) dd fun h' dd' hs => h _ _ ⟨_, rfl, rel.put k eb rv⟩ (x_write I e rel eb rv hl dd' hs)
theorem x_dictSet {Q : Unit → Shared → Prop} (hu : A.units < cLine) (I : Inv X pins σ H s) (d : DXm X.prog X.w H a kvs) (eb : H b = some (.tup (DKey.vs k))) (rv : RelV v r) (hl : kvs.length < sizeLine)
    (h : ∀ H' s', DXput X.prog X.w H a (putK kvs k v) H' → Inv X pins σ H' s' → Q () s') : wpAny (model X.prog X.w) A (dictSet a (.ref b) r) Q E s := by
  obtain ⟨xs, e, rel⟩ := d
  obtain ⟨z, y, dd⟩ := dx_raw I.hok (.inl e) rel
  refine wpAny_dictSet_heap (hsz := y) (show (XKind X.prog X.w).room A from hu) (xkey_of I.hok eb) dd fun h' dd' hs => h _ _ ⟨_, rfl, rel.put k eb rv⟩ (x_write I e rel eb rv hl dd' hs)
theorem x_get2 {d : V} {Q : Value → Shared → Prop} (hu : A.units + 1 < cLine) (I : Inv X pins σ H s) (g : DX X.prog X.w H a kvs) (eb : H b = some (.tup (DKey.vs k))) (rd : RelV d r) (h : ∀ w' s', Inv X pins σ H s' → RelV ((valV kvs k).getD d) w' → Q w' s') :
    wpAny (model X.prog X.w) A (call (.builtin "dict.get") [.ref a, .ref b, r]) Q E s := by
  obtain ⟨hd, _, xs, rel, dd⟩ := dx_rd I.hok g
  refine call_meetsIn PySem.F.slot_dict_get dd.typeIs PySem.F.entry_dict_get (PySem.F.args_dict_get_3 _ _ _) (meetsH_dict_get_default (XKind X.prog X.w) a b hd r) ⟨tupleKind_room_in1 hu, DKey.lf k, xs, xkey_of I.hok eb, dd, h _ _ (I.tok _) ?_⟩
  exact (rel.val k).getD rd
theorem x_setd {d : V} {Q : Value → Shared → Prop} (hu : A.units + 1 < cLine) (I : Inv X pins σ H s) (g : DXm X.prog X.w H a kvs) (eb : H b = some (.tup (DKey.vs k))) (rd : RelV d r) (hl : kvs.length < sizeLine)
    (h1 : ∀ v, valV kvs k = some v → ∀ (w' : Value) (s' : Shared), Inv X pins σ H s' → RelV v w' → Q w' s')
    (h2 : valV kvs k = none → ∀ H' s', DXput X.prog X.w H a (putK kvs k d) H' → Inv X pins σ H' s' → Q r s') :
    wpAny (model X.prog X.w) A (call (.builtin "dict.setdefault") [.ref a, .ref b, r]) Q E s := by
  obtain ⟨xs, e, rel⟩ := g
  obtain ⟨z, y, dd⟩ := dx_raw I.hok (.inl e) rel
  have q := rel.val k
  refine call_setdefault_heap (hsz := y) (tupleKind_room_in1 hu) (xkey_of I.hok eb) z dd (fun p hp => ?_) fun hn h' dd' hs => ?_
  · rw [hp] at q
    cases q0 : valV kvs k with
    | none =>
      rw [q0] at q
      exact (show False from q).elim
    | some v0 =>
      rw [q0] at q
      exact h1 v0 q0 _ _ (I.tok _) q
  · rw [hn] at q
    cases q0 : valV kvs k with
    | some v0 =>
      rw [q0] at q
      exact (show False from q).elim
    | none => exact h2 q0 _ _ ⟨_, rfl, rel.put k eb rd⟩ (x_write I e rel eb rd hl dd' hs)
theorem x_len {Q : Value → Shared → Prop} (I : Inv X pins σ H s) (g : DX X.prog X.w H a kvs) (h : ∀ t s', Inv X pins σ H s' → Q (.int kvs.length t) s') : wpAny (model X.prog X.w) A (call (.builtin "len") [.ref a]) Q E s := by
  obtain ⟨hd, hz, xs, rel, dd⟩ := dx_rd I.hok g
  have dk : s.heap.DictKeyed (XKind X.prog X.w) a (pairsH xs) := ⟨xs, dd, rfl⟩
  have e : (pairsH xs).length = kvs.length := by rw [pairsH_length]; exact (Paired.length rel).symm
  refine PyProof.Rows.call_len_slot (n := kvs.length) dd.typeIs F.slot_dict_len (fun Q' hq => len_keyed hd dk (by rw [e]; exact hq)) (by omega) (by rw [sizeLine_eq] at hz; omega) ?_
  exact h _ _ (I.tok _)
end
end
end PX
end

section
set_option Elab.async false
set_option maxRecDepth 100000
set_option maxHeartbeats 4000000
set_option linter.all false
/-! Rules of expressions and statements over dicts with tuple keys (DX). -/
namespace PX
open PySem PySem.Spec PyProof.Rows L2 PR
section
variable {κ : Type} [DecidableEq κ] [DKey κ]
theorem dx_typ {X : Cx} {pins : List (Addr × Obj)} {σ : L2.St} {H : Hp} {s : Shared} {a : Addr} {kvs : List (κ × V)} (I : Inv X pins σ H s) (d : DX X.prog X.w H a kvs) :
    s.TypeIs (.ref a) "dict" ∧ (∀ b, Value.ref a = .ref b → ∃ ob, s.heap.get? b = some ob ∧ ob.dict = none) ∧ (a == sysModules) = false := by
  obtain ⟨hd, _, xs, _, dd⟩ := dx_rd I.hok d
  refine ⟨dd.typeIs, fun b q => ?_, hd⟩
  cases q
  obtain ⟨ob, _, _, h1, h2, _⟩ := dd
  exact ⟨ob, h1, h2.2.1⟩
/-- d[k]: the key k's own tuple at b -/
def tXGet (κ : Type) [DecidableEq κ] [DKey κ] (P : Program) (w : World) (td ty : TE) : TE := fun σ H Q => td σ H fun x H1 => ty σ H1 fun y H2 =>
  ∃ (a b : Addr) (kvs : List (κ × V)) (k : κ) (v : V), x = .ref a ∧ y = .ref b ∧ DX P w H2 a kvs ∧ H2 b = some (.tup (DKey.vs k)) ∧ valV kvs k = some v ∧ Q v H2
def tXIn (κ : Type) [DecidableEq κ] [DKey κ] (P : Program) (w : World) (ty td : TE) : TE := fun σ H Q => ty σ H fun y H1 => td σ H1 fun x H2 =>
  ∃ (a b : Addr) (kvs : List (κ × V)) (k : κ), x = .ref a ∧ y = .ref b ∧ DX P w H2 a kvs ∧ H2 b = some (.tup (DKey.vs k)) ∧ Q (.bl (valV kvs k).isSome) H2
def tXNin (κ : Type) [DecidableEq κ] [DKey κ] (P : Program) (w : World) (ty td : TE) : TE := fun σ H Q => ty σ H fun y H1 => td σ H1 fun x H2 =>
  ∃ (a b : Addr) (kvs : List (κ × V)) (k : κ), x = .ref a ∧ y = .ref b ∧ DX P w H2 a kvs ∧ H2 b = some (.tup (DKey.vs k)) ∧ Q (.bl (!(valV kvs k).isSome)) H2
/-- d[k] = v -/
def sXPut (κ : Type) [DecidableEq κ] [DKey κ] (P : Program) (w : World) (td ty tv : TE) : TS := fun D σ H => tv σ H fun v H1 => td σ H1 fun x H2 => ty σ H2 fun y H3 =>
  ∃ (a b : Addr) (kvs : List (κ × V)) (k : κ), x = .ref a ∧ y = .ref b ∧ DXm P w H3 a kvs ∧ H3 b = some (.tup (DKey.vs k)) ∧ kvs.length < sizeLine ∧ ∀ H4, DXput P w H3 a (putK kvs k v) H4 → D.nx σ H4
def tXGet2 (κ : Type) [DecidableEq κ] [DKey κ] (P : Program) (w : World) (td ty tx : TE) : TE := fun σ H Q => td σ H fun x H1 => ∃ a, x = .ref a ∧ (∃ kvs0 : List (κ × V), DX P w H1 a kvs0) ∧ ty σ H1 fun y H2 => tx σ H2 fun z H3 =>
  ∃ (b : Addr) (kvs : List (κ × V)) (k : κ), y = .ref b ∧ DX P w H3 a kvs ∧ H3 b = some (.tup (DKey.vs k)) ∧ Q ((valV kvs k).getD z) H3
def tXSetd (κ : Type) [DecidableEq κ] [DKey κ] (P : Program) (w : World) (td ty tx : TE) : TE := fun σ H Q => td σ H fun x H1 => ∃ a, x = .ref a ∧ (∃ kvs0 : List (κ × V), DX P w H1 a kvs0) ∧ ty σ H1 fun y H2 => tx σ H2 fun z H3 =>
  ∃ (b : Addr) (kvs : List (κ × V)) (k : κ), y = .ref b ∧ DXm P w H3 a kvs ∧ H3 b = some (.tup (DKey.vs k)) ∧ kvs.length < sizeLine ∧
    (∀ v, valV kvs k = some v → Q v H3) ∧ (valV kvs k = none → ∀ H4, DXput P w H3 a (putK kvs k z) H4 → Q z H4)
/-- {}, to be a dict with tuple keys -/
def tXNew (κ : Type) [DecidableEq κ] [DKey κ] (P : Program) (w : World) : TE := fun _ H Q => ∀ p, H p = none → ∀ H1, H1 = upd H p (dxO P w p []) → DXm P w H1 p ([] : List (κ × V)) → Q (.ref p) H1
section
variable {X : Cx} {o i e f value : Expr} {pos pos' tpos apos cpos : Pos} {td ty tv tx : TE}
theorem pe_xget (κ : Type) [DecidableEq κ] [DKey κ] (hu : X.A.units + 1 < cLine) (ho : PE X o td) (hi : PE X i ty) (hs : NoSl i) : PE X (.Subscript o i pos) (tXGet κ X.prog X.w td ty) := by
  refine ⟨fun pins s σ H Q I h => ?_⟩
  refine subD_of PySem.F.slot_dict_getitem.lookup hs (thn (ho.run pins s σ H _ I h) fun u s1 ⟨x, H1, I1, rx, q1⟩ => thn (hi.run pins s1 σ H1 _ I1 q1) fun iv s2 ⟨y, H2, I2, ry, a, b, kvs, k, v, ex, ey, d, eb, l, q2⟩ => ?_)
  subst ex ey
  obtain rfl : u = Value.ref a := rx
  obtain rfl : iv = Value.ref b := ry
  exact ⟨(dx_typ I2 d).1, x_getItem hu I2 d eb l fun w' s3 I3 rw' => ⟨v, H2, I3, rw', q2⟩⟩
theorem pc_xin (κ : Type) [DecidableEq κ] [DKey κ] (hu : X.A.units + 1 < cLine) (hi : PE X i ty) (ho : PE X o td) : PC X .In i o (tXIn κ X.prog X.w ty td) := by
  refine ⟨fun pins s σ H Q I h => ?_⟩
  refine thn (hi.run pins s σ H _ I h) fun iv s1 ⟨y, H1, I1, ry, q1⟩ => thn (ho.run pins s1 σ H1 _ I1 q1) fun u s2 ⟨x, H2, I2, rx, a, b, kvs, k, ex, ey, d, eb, q2⟩ => ?_
  subst ex ey
  obtain rfl : u = Value.ref a := rx
  obtain rfl : iv = Value.ref b := ry
  exact x_in hu I2 d eb fun s3 I3 => ⟨.bl (valV kvs k).isSome, H2, I3, rfl, q2⟩
theorem pc_xnotin (κ : Type) [DecidableEq κ] [DKey κ] (hu : X.A.units + 1 < cLine) (hi : PE X i ty) (ho : PE X o td) : PC X .NotIn i o (tXNin κ X.prog X.w ty td) := by
  refine ⟨fun pins s σ H Q I h => ?_⟩
  refine thn (hi.run pins s σ H _ I h) fun iv s1 ⟨y, H1, I1, ry, q1⟩ => thn (ho.run pins s1 σ H1 _ I1 q1) fun u s2 ⟨x, H2, I2, rx, a, b, kvs, k, ex, ey, d, eb, q2⟩ => ?_
  subst ex ey
  obtain rfl : u = Value.ref a := rx
  obtain rfl : iv = Value.ref b := ry
  exact x_notIn hu I2 d eb fun s3 I3 => ⟨.bl (!(valV kvs k).isSome), H2, I3, rfl, q2⟩
theorem ps_xput (κ : Type) [DecidableEq κ] [DKey κ] (hu : X.A.units + 1 < cLine) (ho : PE X o td) (hi : PE X i ty) (hv : PE X value tv) (hs : swapsWith value (some (.Subscript o i pos')) pos.line X.env = pure false) :
    PS X (.Assign [.Subscript o i pos'] value pos) (sXPut κ X.prog X.w td ty tv) := by
  refine ⟨fun pins s σ H D I h => ?_⟩
  refine wpAny_Assign_Subscript (thn (hv.run pins s σ H _ I h) fun r s1 ⟨v, H1, I1, rv, q1⟩ => thn (ho.run pins s1 σ H1 _ I1 q1) fun u s2 ⟨x, H2, I2, rx, q2⟩ => thn (hi.run pins s2 σ H2 _ I2 q2) fun iv s3 ⟨y, H3, I3, ry, a, b, kvs, k, ex, ey, d, eb, hl, q3⟩ => ?_) hs
  subst ex ey
  obtain rfl : u = Value.ref a := rx
  obtain rfl : iv = Value.ref b := ry
  exact x_setItem hu I3 d eb rv hl fun H4 s4 hp I4 => ⟨σ, H4, I4, q3 H4 hp⟩
theorem pe_xget2 (κ : Type) [DecidableEq κ] [DKey κ] (hu : X.A.units + 1 < cLine) (ho : PE X o td) (he : PE X e ty) (hf : PE X f tx) (m : M2 X o "get" apos e f cpos) : PE X (.Call (.Attribute o "get" apos) [e, f] [] cpos) (tXGet2 κ X.prog X.w td ty tx) := by
  refine ⟨fun pins s σ H Q I h => ?_⟩
  refine wpAny_Call_method m.base m.few m.line PySem.F.plainAttrs_dict PySem.F.slot_dict_get PySem.F.type_dict_get (thn (ho.run pins s σ H _ I h) fun u s1 ⟨x, H1, I1, rx, a, ex, ⟨kvs0, d0⟩, q1⟩ => ?_)
  subst ex
  obtain rfl : u = Value.ref a := rx
  obtain ⟨t1, t2, _⟩ := dx_typ I1 d0
  refine ⟨t1, t2, ?_⟩
  rw [m.trees]
  refine Calls.callWith_builtin rfl (Calls.evalArgs_plain (Calls.spliced_cons (thn (he.run pins s1 σ H1 _ I1 q1) fun iv s2 ⟨y, H2, I2, ry, q2⟩ =>
    Calls.spliced_cons (thn (hf.run pins s2 σ H2 _ I2 q2) fun fv s3 ⟨z, H3, I3, rz, b, kvs, k, ey, d, eb, q3⟩ => Calls.spliced_nil ?_))))
  subst ey
  obtain rfl : iv = Value.ref b := ry
  exact x_get2 hu I3 d eb rz fun w' s4 I4 rw' => ⟨_, H3, I4, rw', q3⟩
theorem pe_xsetd (κ : Type) [DecidableEq κ] [DKey κ] (hu : X.A.units + 1 < cLine) (ho : PE X o td) (he : PE X e ty) (hf : PE X f tx) (m : M2 X o "setdefault" apos e f cpos) : PE X (.Call (.Attribute o "setdefault" apos) [e, f] [] cpos) (tXSetd κ X.prog X.w td ty tx) := by
  refine ⟨fun pins s σ H Q I h => ?_⟩
  refine wpAny_Call_method m.base m.few m.line PySem.F.plainAttrs_dict PySem.F.slot_dict_setdefault PySem.F.type_dict_setdefault (thn (ho.run pins s σ H _ I h) fun u s1 ⟨x, H1, I1, rx, a, ex, ⟨kvs0, d0⟩, q1⟩ => ?_)
  subst ex
  obtain rfl : u = Value.ref a := rx
  obtain ⟨t1, t2, _⟩ := dx_typ I1 d0
  refine ⟨t1, t2, ?_⟩
  rw [m.trees]
  refine Calls.callWith_builtin rfl (Calls.evalArgs_plain (Calls.spliced_cons (thn (he.run pins s1 σ H1 _ I1 q1) fun iv s2 ⟨y, H2, I2, ry, q2⟩ =>
    Calls.spliced_cons (thn (hf.run pins s2 σ H2 _ I2 q2) fun fv s3 ⟨z, H3, I3, rz, b, kvs, k, ey, d, eb, hl, q3, q4⟩ => Calls.spliced_nil ?_))))
  subst ey
  obtain rfl : iv = Value.ref b := ry
  exact x_setd hu I3 d eb rz hl (fun v hv w' s4 I4 rw' => ⟨v, _, I4, rw', q3 v hv⟩) fun hn H4 s4 hp I4 => ⟨z, H4, I4, rz, q4 hn H4 hp⟩
theorem pe_xnew (κ : Type) [DecidableEq κ] [DKey κ] : PE X (.Dict [] [] pos) (tXNew κ X.prog X.w) := by
  refine ⟨fun pins s σ H Q I h => wpAny_Dict_empty ?_⟩
  have hn := I.hok.fresh (Nat.le_refl s.heap.objs.size)
  have big : (s.heap.objs.size == sysModules) = false := beq_eq_false_iff_ne.mpr (Nat.ne_of_gt I.big)
  exact ⟨.ref s.heap.objs.size, _, I.laid (a := s.heap.objs.size) (o := dxO X.prog X.w s.heap.objs.size []) (t' := s.toks) (fun _ _ q => Heap.get?_push_of_some _ q) (Nat.le_refl _) (dxO_ok big (Nat.zero_le _) (Heap.DictOfH.new s.heap)), rfl,
    h _ hn _ rfl ⟨[], upd_same, .nil⟩⟩
theorem call_lenX (κ : Type) [DecidableEq κ] [DKey κ] : CallR X (.builtin "len") (fun xs H Q => ∃ (a : Addr) (kvs : List (κ × V)), xs = [V.ref a] ∧ DX X.prog X.w H a kvs ∧ Q (.int kvs.length) H) := by
  intro pins s σ H xs us Q I r h
  obtain ⟨a, kvs, rfl, d, q⟩ := h
  obtain ⟨u, rfl, rx⟩ := vals1 r
  cases rx
  exact x_len I d fun t s' I' => ⟨.int kvs.length, H, I', ⟨_, rfl⟩, q⟩
end

/-! ### walks over the keys, list(d), list(d.items()) -/
theorem dxe_get {H : Hp} {kvs : List (κ × V)} {xs : List (List Leaf × Addr × Value)} (r : DXe H kvs xs) : ∀ {i : Nat} {k : κ} {v : V}, kvs[i]? = some (k, v) → ∃ q u, xs[i]? = some (DKey.lf k, q, u) ∧ H q = some (.tup (DKey.vs k)) ∧ RelV v u := by
  induction r with
  | nil => intro i k v h; simp at h
  | @cons p q ps qs h t ih =>
    intro i k v hi
    cases i with
    | zero =>
      simp at hi
      subst hi
      exact ⟨q.2.1, q.2.2, by rw [h.1]; rfl, h.2.1, h.2.2⟩
    | succ i => exact ih (by simpa using hi)
/-- the keys' own tuples of the locked dict at d -/
def ItX (P : Program) (w : World) (d : Addr) (od : Obj) (xs : List (List Leaf × Addr × Value)) (kvs : List (κ × V)) : It :=
  ⟨fun i H => H d = some (.frz od (dxO P w d xs)) ∧ DXe H kvs xs ∧ i < kvs.length, fun i H x H' => H' = H ∧ ∃ (k : κ) (v : V) (q : Addr), kvs[i]? = some (k, v) ∧ x = .ref q ∧ H q = some (.tup (DKey.vs k)),
    fun i H => H d = some (.frz od (dxO P w d xs)) ∧ DXe H kvs xs ∧ kvs.length ≤ i⟩
theorem frz_obj {X : Cx} {pins : List (Addr × Obj)} {σ : L2.St} {H : Hp} {s : Shared} {d : Addr} {od : Obj} {xs : List (List Leaf × Addr × Value)} (I : Inv X pins σ H s) (h : H d = some (.frz od (dxO X.prog X.w d xs))) :
    (d == sysModules) = false ∧ s.heap.get? d = some od ∧ od.ExactDict ∧ ∃ es ep, od.data = .dict es ep ∧ es.toList = xs.map (entryOfKey (XKind X.prog X.w)) := by
  obtain ⟨e, q⟩ := I.hok d _ h
  obtain ⟨⟨z, y, o, es, ep, h1, h2, h3, h4, h5⟩, _, _⟩ := (show ObjOk X.prog X.w H s.heap d (dxO X.prog X.w d xs) from q)
  rw [e] at h1
  cases h1
  exact ⟨z, e, h2, es, ep, h3, h4⟩
theorem turn_X {P : Program} {w : World} {K : PySem.W.Frag} {tg : Expr} {d : Addr} {od : Obj} {es : Array DictEntry} {ep : Nat} {xs : List (List Leaf × Addr × Value)} {kvs : List (κ × V)} (it : Addr) (hod : od.data = .dict es ep) :
    Turn P w K tg (ItX P w d od xs kvs) [it] it (fun i h => h.IsKeyIter it d i kvs.length ep) where
  mem := List.mem_singleton.mpr rfl
  obj := fun i h st b hb => by
    obtain rfl : b = it := List.mem_singleton.mp hb
    obtain ⟨oi, e, c, dd⟩ := st
    exact ⟨oi, e, fun v z => by rw [dd] at z; cases z⟩
  keep := fun i h h' st k => st.at fun oi e => k it (List.mem_singleton.mpr rfl) oi e
  item := by
    intro X hP hw hK hc i pins s σ H E I hf st hg
    subst hP hw hK
    obtain ⟨hd, rel, hi⟩ := hg
    obtain ⟨g0, g1, g2, g3, g4, g5⟩ := hf it (List.mem_singleton.mpr rfl)
    obtain ⟨hs, hgd, hx, es', ep', hdt, hes⟩ := frz_obj I hd
    rw [hod] at hdt
    cases hdt
    obtain ⟨k, v, hkv⟩ : ∃ k v, kvs[i]? = some (k, v) := ⟨_, _, List.getElem?_eq_getElem hi⟩
    obtain ⟨q, u, hxs, hq, ru⟩ := dxe_get rel hkv
    have hen : es[i]? = some (entryOfKey (XKind X.prog X.w) (DKey.lf k, q, u)) := by rw [entry_at hes, hxs]; rfl
    have hsz : es.size = kvs.length := by rw [size_of_entries hes]; exact (Paired.length rel).symm
    refine next_key_item st hgd hod hsz hen fun h' st' sb => ?_
    have J : Inv X pins σ H { s with heap := h' } := I.turned (t' := s.toks) (fun b ob hb e => (sb.2 b hb).trans e) g0 g1 g3 g4 g5
    obtain ⟨oi, e, c, dd⟩ := id st'
    exact ⟨_, rfl, go_of (s := { s with heap := h' }) e c dd (by decide) ⟨.ref q, H, J, rfl, ⟨rfl, k, v, q, hkv, rfl, hq⟩, st', fun b hb => (hf b hb).1⟩⟩
  done := by
    intro X hP hw hK hc i pins s σ H E I hf st hg
    subst hP hw hK
    obtain ⟨hd, rel, hi⟩ := hg
    obtain ⟨g0, g1, g2, g3, g4, g5⟩ := hf it (List.mem_singleton.mpr rfl)
    obtain ⟨hs, hgd, hx, es', ep', hdt, hes⟩ := frz_obj I hd
    rw [hod] at hdt
    cases hdt
    have hsz : es.size = kvs.length := by rw [size_of_entries hes]; exact (Paired.length rel).symm
    exact next_key_end (I.ok.hd hc) st hgd hod hsz hi fun h' eb => ⟨rfl, I.turned (t' := s.toks) (fun b ob hb e => eb b ob hb e) g0 g1 g3 g4 g5⟩
  self := fun A i s Q E st h => wpAny_pyIter_keyiter st h
/-- for k in d: the dict is locked -/
def iXKeys (κ : Type) [DecidableEq κ] [DKey κ] (P : Program) (w : World) (td : TE) : TI := fun σ H R => td σ H fun x H1 => ∃ (d : Addr) (od : Obj) (xs : List (List Leaf × Addr × Value)) (kvs : List (κ × V)),
  x = .ref d ∧ H1 d = some (.frz od (dxO P w d xs)) ∧ DXe H1 kvs xs ∧ R (ItX P w d od xs kvs) H1
theorem pi_xkeys (κ : Type) [DecidableEq κ] [DKey κ] {X : Cx} {tg e : Expr} {td : TE} (he : PE X e td) : PI X tg e (iXKeys κ X.prog X.w td) := by
  refine ⟨fun pins s σ H R I h => ?_⟩
  refine thn (he.run pins s σ H _ I h) fun u s1 ⟨x, H1, I1, rx, d, od, xs, kvs, ex, hd, rel, q⟩ => ?_
  subst ex
  obtain rfl : u = Value.ref d := rx
  obtain ⟨hs, hgd, hx, es, ep, hdt, hes⟩ := frz_obj I1 hd
  have hsz : es.size = kvs.length := by rw [size_of_entries hes]; exact (Paired.length rel).symm
  refine iter_keys hs hgd hx hdt (pi_one (tk := s1.toks) I1 _ (turn_X _ hdt) ⟨_, Heap.get?_push_size _ rfl, rfl, ?_⟩ q)
  rw [hsz] <;> rfl
/-- a loop over the keys of a locked dict -/
theorem for_X {P : Program} {w : World} {d : Addr} {od : Obj} {xs : List (List Leaf × Addr × Value)} {kvs : List (κ × V)} {g : TG} {tb : TS} {D : Ends} {σ : L2.St} {H : Hp} (Pv : Nat → L2.St → Hp → Prop) (h0 : Pv 0 σ H)
    (hl : ∀ i σ H, i ≤ kvs.length → Pv i σ H → H d = some (.frz od (dxO P w d xs)) ∧ DXe H kvs xs)
    (hs : ∀ (i : Nat) (k : κ) (v : V) (q : Addr) (σ : L2.St) (H : Hp), kvs[i]? = some (k, v) → H q = some (.tup (DKey.vs k)) → Pv i σ H → g (.ref q) σ H fun σ2 H2 => tb { D with nx := Pv (i + 1), ct := Pv (i + 1), bk := D.nx } σ2 H2)
    (hd : ∀ σ H, Pv kvs.length σ H → D.nx σ H) :
    ∃ W : Nat → Nat → L2.St → Hp → Prop, (∃ m, W 0 m σ H) ∧ ∀ i m σ H, W i m σ H →
      ((ItX P w d od xs kvs).stop i H ∧ D.nx σ H) ∨ ((ItX P w d od xs kvs).go i H ∧ ∃ N : L2.St → Hp → Prop, (∀ σ' H', N σ' H' → ∃ m', m' < m ∧ W (i + 1) m' σ' H') ∧ ∀ x H', (ItX P w d od xs kvs).yld i H x H' → g x σ H' fun σ2 H2 => tb { D with nx := N, ct := N, bk := D.nx } σ2 H2) := by
  refine ⟨fun i m σ H => m = kvs.length - i ∧ i ≤ kvs.length ∧ Pv i σ H, ⟨kvs.length, rfl, Nat.zero_le _, h0⟩, ?_⟩
  rintro i m σ H ⟨rfl, hi, p⟩
  obtain ⟨q1, q2⟩ := hl i σ H hi p
  by_cases hlt : i < kvs.length
  · refine .inr ⟨⟨q1, q2, hlt⟩, Pv (i + 1), fun σ' H' p' => ⟨kvs.length - (i + 1), by omega, rfl, hlt, p'⟩, fun x H' y => ?_⟩
    obtain ⟨rfl, k, v, q, hkv, rfl, hq⟩ := y
    exact hs i k v q σ H' hkv hq p
  · obtain rfl : i = kvs.length := by omega
    exact .inl ⟨⟨q1, q2, Nat.le_refl _⟩, hd σ H p⟩
/-- the keys' own tuples, in order -/
def KeysAt (H : Hp) (kvs : List (κ × V)) (bs : List Addr) : Prop := Paired (fun (p : κ × V) b => H b = some (.tup (DKey.vs p.1))) kvs bs
theorem keysAt_of {H : Hp} {kvs : List (κ × V)} {xs : List (List Leaf × Addr × Value)} (r : DXe H kvs xs) : KeysAt H kvs (xs.map fun x => x.2.1) := by
  unfold KeysAt
  induction r with
  | nil => exact Paired.nil
  | cons h t ih => exact Paired.cons h.2.1 ih
/-- list(d) -/
theorem call_listX (κ : Type) [DecidableEq κ] [DKey κ] {X : Cx} (hc : X.calm = true) : CallR X (.type "list") (fun xs H Q => ∃ (d : Addr) (kvs : List (κ × V)), xs = [V.ref d] ∧ DX X.prog X.w H d kvs ∧ ∀ p bs, H p = none → KeysAt H kvs bs → Q (.ref p) (upd H p (.lst (bs.map V.ref)))) := by
  intro pins s σ H xs us Q I r h
  obtain ⟨d, kvs, rfl, hd, q⟩ := h
  obtain ⟨u, rfl, rx⟩ := vals1 r
  cases rx
  obtain ⟨z, y, ks, rel, dd⟩ := dx_rd I.hok hd
  obtain ⟨o, es, ep, ho, hx, hdt, he, _, hn⟩ := dd
  have l1 : es.size = ks.length := size_of_entries he
  have l2 : kvs.length = ks.length := Paired.length rel
  refine PySem.W.kdl_call (kdl_raw z hx hdt) (I.ok.hd hc) ho (by omega) fun h' tk acc c kp e its => ?_
  have ea : acc.toList = (ks.map fun x => x.2.1).map Value.ref := by
    apply List.ext_getElem?
    intro j
    rw [Array.getElem?_toList, List.getElem?_map, List.getElem?_map]
    by_cases hj : j < acc.size
    · obtain ⟨en, hen, hv⟩ := its.2 j acc[j] (Array.getElem?_eq_getElem hj)
      rw [entry_at he] at hen
      rw [Array.getElem?_eq_getElem hj, hv]
      cases hb : ks[j]? with
      | none => rw [hb] at hen; cases hen
      | some b =>
        rw [hb] at hen
        cases hen
        rfl
    · have h1 : acc.size = ks.length := by rw [its.1]; exact l1
      rw [Array.getElem?_eq_none (by omega), List.getElem?_eq_none (by omega)]
      rfl
  refine ⟨.ref s.heap.objs.size, _, I.laid (t' := tk) (o := .lst ((ks.map fun x => x.2.1).map V.ref)) kp (Nat.le_refl _) ⟨by rw [List.length_map, List.length_map]; omega, acc.toList, c, by rw [ea]; exact L2.vals_refs _, by rw [Array.toArray_toList]; exact e⟩, rfl,
    q _ _ (I.hok.fresh (Nat.le_refl _)) (keysAt_of rel)⟩
end
end PX
end

section
set_option Elab.async false
set_option maxRecDepth 100000
set_option maxHeartbeats 4000000
set_option linter.all false
/-! list(d.items()), sorted of data, dict comprehensions with tuple keys. -/
namespace PX
open PySem PySem.Spec PyProof.Rows L2 PR
/-- several new objects: below the old heap's size nothing changes -/
theorem laid_many {X : Cx} {pins : List (Addr × Obj)} {σ : L2.St} {H H' : Hp} {s : Shared} {h' : Heap} {t' : Nat} (I : Inv X pins σ H s) (kp : ∀ b o, s.heap.get? b = some o → h'.get? b = some o)
    (low : ∀ b, b < s.heap.objs.size → H' b = H b) (new : ∀ b o, s.heap.objs.size ≤ b → H' b = some o → ObjOk X.prog X.w H' h' b o) : Inv X pins σ H' { s with heap := h', toks := t' } := by
  have same : ∀ b u, H b = some u → H' b = some u := fun b u e => by rw [low b (I.hok.lt e)]; exact e
  refine I.call' (ch := []) rfl ⟨fun b o q _ _ _ => kp b o q, fun b o q _ _ _ => ⟨o.slots, kp b o q⟩, fun b o q n _ => ?_, fun b o q _ => ⟨o, kp b o q⟩, fun b xs q => same b _ q, fun b o u q => same b _ q, fun b ps q => ⟨#[], ?_⟩⟩ (fun b u q => ?_) I.bare fun b z => nomatch z
  · rw [low b (Heap.lt_size q)]; exact n
  · rw [same b _ q]; simp
  · by_cases hb : b < s.heap.objs.size
    · rw [low b hb] at q
      exact (I.hok b u q).stay (fun d v _ y => kp d v y) (fun d y => same d _ y) fun d xs y => same d _ y
    · exact new b u (Nat.le_of_not_lt hb) q
section
variable {κ : Type} [DecidableEq κ] [DKey κ]
/-- the pair (key, value) as a tuple at t -/
def PairAt (H : Hp) (t : Addr) (p : κ × V) : Prop := ∃ b, H t = some (.tup [.ref b, p.2]) ∧ H b = some (.tup (DKey.vs p.1))
def tListItemsX (κ : Type) [DecidableEq κ] [DKey κ] (P : Program) (w : World) (te : TE) : TE := fun σ H Q => te σ H fun x H1 => ∃ (d : Addr) (kvs : List (κ × V)), x = .ref d ∧ DX P w H1 d kvs ∧
  ∀ (H' : Hp) (p : Addr) (ts : List Addr), Same H1 H' → H1 p = none → H' p = some (.lst (ts.map V.ref)) → Paired (PairAt H') ts kvs → Q (.ref p) H'
theorem addr_ix {as : List Addr} {b : Addr} (h : b ∈ as) : as[as.idxOf b]? = some b := by
  have hl := List.idxOf_lt_length_of_mem h
  rw [List.getElem?_eq_getElem hl, List.getElem_idxOf hl]
theorem pe_listItemsX (κ : Type) [DecidableEq κ] [DKey κ] {X : Cx} {e : Expr} {te : TE} {p apos cpos pos : Pos} (hc : X.calm = true) (he : PE X e te) (hg : Gl X "list") (hm : X.mg "list" = none) (hv : bootBuiltins "list" = some (.type "list"))
    (hbase : attributeBase e "items" X.env (eval e X.env) = eval e X.env := by rfl) (hline : (apos.endLine == cpos.line) = true := by rfl)
    (hs : starEach [.Call (.Attribute e "items" apos) [] [] cpos] X.env = (false, eval (.Call (.Attribute e "items" apos) [] [] cpos) X.env) :: starEach [] X.env := by rfl) :
    PE X (.Call (.Name "list" p) [.Call (.Attribute e "items" apos) [] [] cpos] [] pos) (tListItemsX κ X.prog X.w te) := by
  refine ⟨fun pins s σ H Q I hq => ?_⟩
  refine wpAny_Call_Name_kw (ld_blt I hg hm hv ?_)
  refine PyProof.Rows.callWith_type1 ?_ hs rfl
  rw [hs]
  show wpAny _ _ (spliced ((false, eval (.Call (.Attribute e "items" apos) [] [] cpos) X.env) :: backTo pos (starEach [] X.env))) _ _ s
  refine Calls.spliced_cons ?_
  refine wpAny_Call_method (T := "dict") (id := "dict.items") hbase rfl hline F.plainAttrs_dict F.slot_dict_items F.type_dict_items (thn (he.run pins s σ H _ I hq) fun u s1 ⟨x, H1, I1, rx, d, kvs, ex, hd, q⟩ => ?_)
  subst ex
  obtain rfl : u = Value.ref d := rx
  obtain ⟨t1, t2, _⟩ := dx_typ I1 hd
  obtain ⟨lo, hz, xs, rel, dd⟩ := dx_rd I1.hok hd
  obtain ⟨o, es, ep, ho, hx, hdt, hes, _, _⟩ := dd
  have raw : s1.heap.DictRaw d es ep := ⟨o, ho, hx, hdt⟩
  have hsz : es.size = kvs.length := by rw [size_of_entries hes]; exact (Paired.length rel).symm
  refine ⟨t1, t2, ?_⟩
  show wpAny _ _ (callWith cpos (.builtin "dict.items") [.ref d] [] []) _ X.xe s1
  refine method_meetsIn F.slot_dict_items F.entry_dict_items rfl (PySem.evalArgs_none ⟨rfl, t1, F.args_dict_items_1 _, _, meets_dict_items_raw d lo, ⟨es, ep, raw⟩, ?_⟩)
  refine Calls.spliced_nil ?_
  generalize hs2 : ({ s1 with heap := s1.heap.push { cls := .type "dict_items", data := .fields #[.ref d] } } : Shared) = s2
  have sz1 : s1.heap.objs.size ≤ s2.heap.objs.size := by rw [← hs2]; show s1.heap.objs.size ≤ (s1.heap.push _).objs.size; rw [Heap.size_push]; exact Nat.le_succ _
  have I2 : Inv X pins σ H1 s2 := by rw [← hs2]; exact I1.kept (t' := s1.toks) fun b ob q => Heap.get?_push_of_some _ q
  have view : s2.heap.IsItemsView s1.heap.objs.size d := by rw [← hs2]; exact ⟨_, Heap.get?_push_size _ rfl, rfl, rfl⟩
  have raw2 : s2.heap.DictRaw d es ep := by rw [← hs2]; exact raw.push _
  refine PySem.W.dil_call (es := es) (ep := ep) (I1.ok.hd hc) view raw2 (by omega) fun h' tk acc c as hk hS hl hG hacc => ?_
  have nS : s2.heap.objs.size ∉ as := fun z => Nat.lt_irrefl _ (hG.above _ z)
  have nd : as.Nodup := List.Pairwise.imp (fun {a b} (h : a < b) => Nat.ne_of_lt h) hG.rise
  -- the new heap: the list, and the pairs
  let H' : Hp := fun b => if b = s2.heap.objs.size then some (.lst (as.map V.ref)) else if b ∈ as then
    (match xs[as.idxOf b]?, kvs[as.idxOf b]? with | some x, some kv => some (.tup [.ref x.2.1, kv.2]) | _, _ => none) else H1 b
  have eS : H' s2.heap.objs.size = some (.lst (as.map V.ref)) := if_pos rfl
  have eT : ∀ {j : Nat} {t : Addr}, as[j]? = some t → ∀ {x : List Leaf × Addr × Value} {kv : κ × V}, xs[j]? = some x → kvs[j]? = some kv → H' t = some (.tup [.ref x.2.1, kv.2]) := by
    intro j t ht x kv hx' hkv
    have hmem : t ∈ as := List.mem_of_getElem? ht
    have hne : t ≠ s2.heap.objs.size := fun z => nS (by rw [← z]; exact hmem)
    have hj : as.idxOf t = j := by
      have h1 := addr_ix hmem
      exact nd_ix nd h1 ht
    show (if t = s2.heap.objs.size then _ else if t ∈ as then _ else _) = _
    rw [if_neg hne, if_pos hmem, hj, hx', hkv]
  have eO : ∀ b, b < s2.heap.objs.size → H' b = H1 b := fun b hb => by
    show (if b = s2.heap.objs.size then _ else if b ∈ as then _ else _) = _
    rw [if_neg (Nat.ne_of_lt hb), if_neg fun z => absurd (hG.above b z) (Nat.not_lt.mpr (Nat.le_of_lt hb))]
  have J : Inv X pins σ H' { s2 with heap := h', toks := tk } := by
    refine laid_many I2 hk eO fun b ob hb e => ?_
    by_cases hS' : b = s2.heap.objs.size
    · rw [hS', eS] at e
      cases e
      rw [hS']
      exact ⟨by rw [List.length_map]; omega, acc.toList, c, by rw [hacc]; exact L2.vals_refs as, by rw [Array.toArray_toList]; exact hS⟩
    · by_cases hmem : b ∈ as
      · have hat := addr_ix hmem
        have hjl : as.idxOf b < kvs.length := by
          have := List.idxOf_lt_length_of_mem hmem
          omega
        obtain ⟨k, v, hkv⟩ : ∃ k v, kvs[as.idxOf b]? = some (k, v) := ⟨_, _, List.getElem?_eq_getElem hjl⟩
        obtain ⟨qa, u, hxs, hq, ru⟩ := dxe_get rel hkv
        rw [eT hat hxs hkv] at e
        cases e
        obtain ⟨hj, hget⟩ := hG.pairs _ b hat
        have hen : es[as.idxOf b]? = some (entryOfKey (XKind X.prog X.w) (DKey.lf k, qa, u)) := by rw [entry_at hes, hxs]; rfl
        rw [Array.getElem?_eq_getElem hj] at hen
        have hen' := Option.some.inj hen
        rw [hen'] at hget
        exact ⟨by show 2 ≤ sizeLine; decide, [.ref qa, u], .cons rfl (.cons ru .nil), ⟨_, hget, rfl, _, rfl⟩⟩
      · have : H' b = H1 b := by
          show (if b = s2.heap.objs.size then _ else if b ∈ as then _ else _) = _
          rw [if_neg hS', if_neg hmem]
        rw [this, I2.hok.fresh hb] at e
        cases e
  have kp : Same H1 H' := fun b o e => by rw [eO b (I2.hok.lt e)]; exact e
  refine ⟨.ref _, H', J, rfl, q H' _ as kp (I2.hok.fresh (Nat.le_refl _)) eS ?_⟩
  have pr : ∀ (j : Nat) (t : Addr) (kv : κ × V), as[j]? = some t → kvs[j]? = some kv → PairAt H' t kv := by
    intro j t kv ht hkv
    obtain ⟨qa, u, hxs, hq, ru⟩ := dxe_get rel (k := kv.1) (v := kv.2) hkv
    exact ⟨qa, eT ht hxs hkv, kp _ _ hq⟩
  have mk : ∀ (as : List Addr) (kvs : List (κ × V)), as.length = kvs.length → (∀ (j : Nat) (t : Addr) (kv : κ × V), as[j]? = some t → kvs[j]? = some kv → PairAt H' t kv) → Paired (PairAt H') as kvs := by
    intro as
    induction as with
    | nil =>
      intro kvs hl _
      cases kvs with
      | nil => exact .nil
      | cons a r => simp at hl
    | cons a r ih =>
      intro kvs hl hp
      cases kvs with
      | nil => simp at hl
      | cons b t => exact .cons (hp 0 a b rfl rfl) (ih t (by simpa using hl) fun j t' kv h1 h2 => hp (j + 1) t' kv (by simpa using h1) (by simpa using h2))
  exact mk as kvs (by omega) pr
end

/-! ### sorted(xs), xs data of one shape -/
def rSortedD (K : PySem.W.Frag) {β : Type} (enc : β → PyData) : List V → Hp → VK → Prop := fun vs H Q => ∃ (a : Addr) (xs : List V) (bs : List β), vs = [V.ref a] ∧ SqL K H a xs ∧ Paired (fun x b => Dp K H x (enc b)) xs bs ∧
  PySem.W.AllAlike (bs.map enc) ∧ PySem.W.Sortable (bs.map enc) ∧ (∀ b ∈ bs, (enc b).depth ≤ 8) ∧
  ∀ (ys : List V) (p : Addr), H p = none → Paired (fun y b => Dp K H y (enc b)) ys (bs.mergeSort (PySem.W.dataLe false enc)) → Q (.ref p) (upd H p (.lst ys))
theorem cr_sortedD {X : Cx} {β : Type} (enc : β → PyData) (hu : X.A.units + 64 < cLine) : CallR X (.builtin "sorted") (rSortedD X.K enc) := by
  intro pins s σ H xs us Q I r h
  obtain ⟨a, xs, bs, rfl, hl, hp, hal, hk, hd, q⟩ := h
  obtain ⟨u, rfl, rx⟩ := vals1 r
  cases rx
  obtain ⟨its, rv, pl, hz⟩ := I.list hl
  have each : ∀ {xs : List V} {its : List Value} {bs : List β}, Vals xs its → Paired (fun x b => Dp X.K H x (enc b)) xs bs → PySem.W.EachIs (fun u b => ∃ x, RelV x u ∧ Dp X.K H x (enc b)) its bs := by
    intro xs its bs rv hp
    induction hp generalizing its with
    | nil => cases rv; exact .nil
    | cons h t ih =>
      cases rv with
      | cons r rr => exact .cons ⟨_, r, h⟩ (ih rr)
  have e1 := each rv hp
  have e2 : PySem.W.EachIs (fun v b => ∃ as, Reads s.heap v (enc b) as) its bs := e1.mono fun v b ⟨x, rx, dx⟩ => Dp.reads I (enc b) x v dx rx
  have hlen : bs.length ≤ sizeLine := by rw [← Paired.length hp]; exact hz
  refine PySem.W.sorted_data (vs := its) (bs := bs) (enc := enc) (R := fun u b => ∃ x, RelV x u ∧ Dp X.K H x (enc b)) pl.isList e1 e2 hal hk hlen (fun b hb => ?_) fun out ho eo => ?_
  · have := hd b hb
    omega
  · have back : ∀ {out : List Value} {cs : List β}, PySem.W.EachIs (fun u b => ∃ x, RelV x u ∧ Dp X.K H x (enc b)) out cs → ∃ ys : List V, Vals ys out ∧ Paired (fun y b => Dp X.K H y (enc b)) ys cs := by
      intro out cs e
      induction e with
      | nil => exact ⟨[], .nil, .nil⟩
      | cons h t ih =>
        obtain ⟨x, h1, h2⟩ := h
        obtain ⟨ys, h3, h4⟩ := ih
        exact ⟨x :: ys, .cons h1 h3, .cons h2 h4⟩
    obtain ⟨ys, r1, r2⟩ := back eo
    obtain ⟨c, hc⟩ := sortedAll_at s.heap its (List.toArray out)
    refine ⟨.ref (s.heap.objs.size + 1), _, I.laid (a := s.heap.objs.size + 1) (o := .lst ys) (t' := s.toks) (fun b o e => sortedAll_old e) (Nat.le_succ _) ⟨?_, out, c, r1, hc⟩, rfl, q ys _ (I.hok.fresh (Nat.le_succ _)) r2⟩
    rw [r1.length, ho]
    exact hlen
end PX
end

section
set_option Elab.async false
set_option maxRecDepth 100000
set_option maxHeartbeats 4000000
set_option linter.all false
/-! Dict comprehensions whose keys are tuples. -/
namespace PX
open PySem PySem.Spec PyProof.Rows L2 PR
/-- {k: v for target in iter if ..}, the keys tuples: D the new dict -/
def tXDc (κ : Type) [DecidableEq κ] [DKey κ] (P : Program) (w : World) (wi : TI) (g : TG) (tt : TT) (tk tv : TE) (vs : List Nat) : TE := fun σ H Q => wi σ H fun J H1 => ∀ D, H1 D = none → ∀ H2, H2 = upd H1 D (dxO P w D []) → DXm P w H2 D ([] : List (κ × V)) →
  ∃ W : Nat → Nat → Hp → Prop, (∃ m, W 0 m H2) ∧ ∀ i m H, W i m H → (J.stop i H ∧ Q (.ref D) H) ∨ (J.go i H ∧ ∃ Nx : Hp → Prop, (∀ H', Nx H' → ∃ m', m' < m ∧ W (i + 1) m' H') ∧
    ∀ x H', J.yld i H x H' → g x (wipe σ vs) H' fun σ2 H2 => wipe σ2 vs = wipe σ vs ∧ tt σ2 H2 fun b H3 => if b = true then tk σ2 H3 fun y H4 => tv σ2 H4 fun z H5 =>
      ∃ (b : Addr) (kvs : List (κ × V)) (k : κ), y = .ref b ∧ DXm P w H5 D kvs ∧ H5 b = some (.tup (DKey.vs k)) ∧ kvs.length < sizeLine ∧ ∀ H6, DXput P w H5 D (putK kvs k z) H6 → Nx H6 else Nx H3)
section
variable {X : Cx}
theorem xdc_core (κ : Type) [DecidableEq κ] [DKey κ] {pins : List (Addr × Obj)} {s : Shared} {σ : L2.St} {H : Hp} {Q : VK} {kx vx tg iter : Expr} {ifs : List Expr} {scope : Scope} {own : List (Str × Nat)} {pos pos' : Pos} {wi : TI} {g : TG} {tt : TT} {tk tv : TE} {use : Option (Value → Sem Unit)} {Qf : Value → Shared → Prop}
    (hu : X.A.units < cLine) (hc : X.calm = true) (hN : X.N.Nodup) (I : Inv X pins σ H s) (hi : PI X tg iter wi) (ok : BlkOk X.N X.env.scope scope own)
    (hg : ∀ (s : Shared) (H : Hp) (C : Addr) (cl : List (Str × Addr)) (fp : List Addr), PG (X.blk s H scope (compEnvC scope cl C X.env) fp) tg g)
    (ht : ∀ (s : Shared) (H : Hp) (C : Addr) (cl : List (Str × Addr)) (fp : List Addr), PTs (X.blk s H scope (compEnvC scope cl C X.env) fp) ifs tt)
    (hk : ∀ (s : Shared) (H : Hp) (C : Addr) (cl : List (Str × Addr)) (fp : List Addr), PE (X.blk s H scope (compEnvC scope cl C X.env) fp) kx tk)
    (he : ∀ (s : Shared) (H : Hp) (C : Addr) (cl : List (Str × Addr)) (fp : List Addr), PE (X.blk s H scope (compEnvC scope cl C X.env) fp) vx tv)
    (hs : ∀ x, foldedSetIterable iter X.env x = pure x) (h : tXDc κ X.prog X.w wi g tt tk tv (own.map (·.2)) σ H Q)
    (hRR : ∀ D C s' m H', Inv X pins σ H' s' → Q (.ref D) H' → s'.heap.Ns C m → FpOk X pins H' C → compPost (model X.prog X.w) X.A X.xe use Qf (.ref D) C (.ok .next) s') :
    wpAny (model X.prog X.w) X.A (comprehension (.DictComp kx vx [⟨tg, iter, ifs, 0⟩] scope pos) scope X.env pos' newDict false (eval iter X.env) use) Qf X.xe s := by
  have hfree : ∀ y ∈ scope.names, y.2 = .free → ∃ c, X.env.cells.lookup y.1 = some c := fun y hy e =>
    (ok.free y hy e).elim (fun k => I.ok.has _ (.inl k)) fun k => I.ok.has _ (.inr k)
  refine wpAny_comprehension_free (use := use) rfl hs (closure_ok hfree) ok.kind (fun y hy e => by rw [ok.uniq y hy, e]) (thn (hi.run pins s σ H _ I h) fun xv s1 hx => thn hx fun itv s2 h2 => ?_)
  obtain ⟨it, fp, tn, J, H2, e, I2, T, st2, f2, q⟩ := h2
  subst e
  refine wpAny_newObj_type (newEnv_comp ?_)
  have hDn : H2 s2.heap.objs.size = none := I2.hok.fresh (Nat.le_refl _)
  have big : (s2.heap.objs.size == sysModules) = false := beq_eq_false_iff_ne.mpr (Nat.ne_of_gt I2.big)
  have q := q s2.heap.objs.size hDn _ rfl ⟨[], upd_same, .nil⟩
  -- the new dict at D, the heap H3 with it, the store s3
  generalize hH3 : upd H2 s2.heap.objs.size (dxO X.prog X.w s2.heap.objs.size []) = H3 at q
  generalize hs3 : ({ s2 with heap := s2.heap.push { cls := .type "dict", data := .dict #[] } } : Shared) = s3
  have h3 : s3.heap = s2.heap.push { cls := .type "dict", data := .dict #[] } := by rw [← hs3]
  have I3 : Inv X pins σ H3 s3 := by
    rw [← hs3, ← hH3]
    exact I2.laid (t' := s2.toks) (fun b o e => Heap.get?_push_of_some _ e) (Nat.le_refl _) (dxO_ok big (Nat.zero_le _) (Heap.DictOfH.new s2.heap))
  have lt2 : ∀ b ∈ fp, b < s2.heap.objs.size := fun b hb => let ⟨o, e, _⟩ := T.obj _ _ st2 b hb; Heap.lt_size e
  generalize hD : s2.heap.objs.size = D at *
  have f3 : ∀ b ∈ fp, FpOk X pins H3 b ∧ b < s3.heap.objs.size := fun b hb => by
    refine ⟨⟨?_, (f2 b hb).2⟩, by rw [h3, Heap.size_push, hD]; exact Nat.lt_succ_of_lt (lt2 b hb)⟩
    rw [← hH3, upd_ne (Nat.ne_of_lt (lt2 b hb))]
    exact (f2 b hb).1
  have st3 : tn 0 s3.heap := T.keep _ _ _ st2 fun b _ o e => by rw [h3]; exact Heap.get?_push_of_some _ e
  have I4 := block_start I3 ok hN f3
  have pg := hg s3 H3 s3.heap.objs.size (cellsFrom (s3.heap.objs.size + 1) scope.names (cloFrom X.env.cells scope.names [])) fp
  have pt := ht s3 H3 s3.heap.objs.size (cellsFrom (s3.heap.objs.size + 1) scope.names (cloFrom X.env.cells scope.names [])) fp
  have pk := hk s3 H3 s3.heap.objs.size (cellsFrom (s3.heap.objs.size + 1) scope.names (cloFrom X.env.cells scope.names [])) fp
  have pe := he s3 H3 s3.heap.objs.size (cellsFrom (s3.heap.objs.size + 1) scope.names (cloFrom X.env.cells scope.names [])) fp
  show codeAny _ _ (.compStart (.DictComp kx vx [⟨tg, iter, ifs, 0⟩] scope pos) 0 (.ref it) (.ref D) (compEnvC scope (cellsFrom (s3.heap.objs.size + 1) scope.names (cloFrom X.env.cells scope.names [])) s3.heap.objs.size X.env))
    (compPost (model X.prog X.w) X.A X.xe use Qf (.ref D) s3.heap.objs.size) { s3 with heap := pushCells (s3.heap.push { cls := .type "dict", data := .dict #[] }) scope.names }
  generalize hce : compEnvC scope (cellsFrom (s3.heap.objs.size + 1) scope.names (cloFrom X.env.cells scope.names [])) s3.heap.objs.size X.env = ce at I4 pg pt pk pe ⊢
  have cL : ce.locals = s3.heap.objs.size := by subst hce; rfl
  generalize hs4 : ({ s3 with heap := pushCells (s3.heap.push { cls := .type "dict", data := .dict #[] }) scope.names } : Shared) = s4 at I4 ⊢
  have st4 : tn 0 s4.heap := T.keep _ _ _ st3 fun b _ o e => by rw [← hs4]; exact pushCells_keeps _ _ _ _ (Heap.get?_push_of_some _ e)
  -- the block's context, and what stays true of the iterator's records in it
  generalize hB : X.blk s3 H3 scope ce fp = B at I4 pg pt pk pe
  have stat : ∀ {σ' : L2.St} {H' : Hp} {s' : Shared}, Inv B [] σ' H' s' → (∀ b ∈ fp, H' b = none) → ∀ b ∈ fp, FpOk B [] H' b := by
    subst hB
    exact fun {σ' H' s'} I' hn b hb => ⟨hn b hb, (I'.ok.exf b hb).1, I'.ok.exfs b hb, .inl hb, fun x c e => (I'.ok.exf b hb).2 x c e, fun p hp => nomatch (show p ∈ ([] : List (Addr × Obj)) from hp)⟩
  obtain ⟨W, ⟨m0, w0⟩, turn⟩ := q
  have bA : B.A = X.A := by subst hB; rfl
  have bP : B.prog = X.prog := by subst hB; rfl
  have bW : B.w = X.w := by subst hB; rfl
  have bx : B.xe = fun _ _ => False := by subst hB; rfl
  have loop : codeAny (model X.prog X.w) X.A (.compLoop (.DictComp kx vx [⟨tg, iter, ifs, 0⟩] scope pos) 0 (.ref it) (.ref D) ce) (compPost (model X.prog X.w) X.A X.xe use Qf (.ref D) s3.heap.objs.size) s4 := by
    refine compLoop_anyD (fun n s' => ∃ i H', Inv B [] (wipe σ (own.map (·.2))) H' s' ∧ tn i s'.heap ∧ (∀ b ∈ fp, H' b = none) ∧ W i n H') ?_ m0 ⟨0, H3, I4, st4, fun b hb => (f3 b hb).1.1, w0⟩
    rintro n s5 ⟨i, H5, I5, st5, n5, w5⟩
    rcases turn i n H5 w5 with ⟨stop, qq⟩ | ⟨go, Nx, hNx, step⟩
    · have td := T.done B bP bW (by subst hB; rfl) (by subst hB; exact hc) i [] s5 _ H5 (fun _ _ => False) I5 (stat I5 n5) st5 stop
      rw [bA] at td
      refine thnF td fun r s6 ⟨hr, I6⟩ => ?_
      subst hr
      subst hB
      have I7 : Inv X pins σ H5 s6 := I3.call' (ch := fp) I6.os I6.base I6.hok I6.bare fun b hb => ⟨(f3 b hb).1.2.2.2.1, (f3 b hb).1.2.1, (f3 b hb).1.2.2.2.2.1, (f3 b hb).1.2.2.2.2.2⟩
      have nC : H5 s3.heap.objs.size = none := by rw [← cL]; exact I6.free
      obtain ⟨m, hn, _⟩ := I6.loc
      have hn : s6.heap.Ns ce.locals m := hn
      rw [cL] at hn
      exact hRR D s3.heap.objs.size s6 m H5 I7 qq hn (I3.fpOk (Nat.le_refl _) nC)
    · have ti := T.item B bP bW (by subst hB; rfl) (by subst hB; exact hc) i [] s5 _ H5 (fun _ _ => False) I5 (stat I5 n5) st5 go
      rw [bA] at ti
      subst hB
      refine thnF ti fun r s6 ⟨u, hr, h6⟩ => ?_
      subst hr
      refine thnF h6 fun _ s7 ⟨x, H7, I7, r7, y7, st7, n7⟩ => ?_
      have I7' := I7.pinned (stat I7 n7) (T.obj _ _ st7)
      refine thnF (pg.run _ s7 _ H7 x u _ I7' r7 (step x H7 y7)) fun _ s8 ⟨σ8, H8, I8, hw8, q8⟩ => ?_
      refine thnF (pt.run _ s8 σ8 H8 _ I8 q8) fun b s9 ⟨H9, I9, q9⟩ => ?_
      have fin : ∀ {s' : Shared} {H' : Hp}, Inv (X.blk s3 H3 scope ce fp) ([] ++ pinsAt fp s7.heap) σ8 H' s' → Nx H' →
          ∃ m, m < n ∧ ∃ i H', Inv (X.blk s3 H3 scope ce fp) [] (wipe σ (own.map (·.2))) H' s' ∧ tn i s'.heap ∧ (∀ b ∈ fp, H' b = none) ∧ W i m H' := fun {s' H'} I' nx => by
        obtain ⟨m', hm, w'⟩ := hNx H' nx
        have pin' : ∀ b ∈ fp, ∀ o, s7.heap.get? b = some o → s'.heap.get? b = some o ∧ H' b = none := fun b hb o e =>
          have z := I'.pin (b, o) (List.mem_append_right _ (List.mem_append_right _ (mem_pinsAt hb e)))
          ⟨z.1, z.2.1⟩
        refine ⟨m', hm, i + 1, H', (I'.unpinned (pins := [])).weak (by rw [← hw8, wipe_length]) (fun j v e => ?_), T.keep _ _ _ st7 fun b hb o e => (pin' b hb o e).1, fun b hb => ?_, w'⟩
        · rw [← hw8] at e
          exact (wipe_some e).1
        · obtain ⟨o, e, _⟩ := T.obj _ _ st7 b hb
          exact (pin' b hb o e).2
      cases b with
      | false => exact fin I9 q9
      | true =>
        refine thnF (pk.run _ s9 σ8 H9 _ I9 q9) fun z s10 ⟨yk, H10, I10, r10, q10⟩ => ?_
        refine thnF (pe.run _ s10 σ8 H10 _ I10 q10) fun z2 s11 ⟨yv, H11, I11, r11, b, kvs, k, ek, hD11, eb, hz11, nx⟩ => ?_
        subst ek
        obtain rfl : z = Value.ref b := r10
        exact x_dictSet (X := X.blk s3 H3 scope ce fp) hu I11 hD11 eb r11 hz11 fun H12 s12 hp I12 => fin I12 (nx H12 hp)
  exact codeAny_compStart_dict loop (T.self X.A 0 _ _ _ st4 loop)
theorem pe_xdc (κ : Type) [DecidableEq κ] [DKey κ] {kx vx tg iter : Expr} {ifs : List Expr} {scope : Scope} {own : List (Str × Nat)} {pos : Pos} {wi : TI} {g : TG} {tt : TT} {tk tv : TE} (hu : X.A.units < cLine) (hc : X.calm = true) (hN : X.N.Nodup) (hi : PI X tg iter wi) (ok : BlkOk X.N X.env.scope scope own)
    (hg : ∀ (s : Shared) (H : Hp) (C : Addr) (cl : List (Str × Addr)) (fp : List Addr), PG (X.blk s H scope (compEnvC scope cl C X.env) fp) tg g)
    (ht : ∀ (s : Shared) (H : Hp) (C : Addr) (cl : List (Str × Addr)) (fp : List Addr), PTs (X.blk s H scope (compEnvC scope cl C X.env) fp) ifs tt)
    (hk : ∀ (s : Shared) (H : Hp) (C : Addr) (cl : List (Str × Addr)) (fp : List Addr), PE (X.blk s H scope (compEnvC scope cl C X.env) fp) kx tk)
    (he : ∀ (s : Shared) (H : Hp) (C : Addr) (cl : List (Str × Addr)) (fp : List Addr), PE (X.blk s H scope (compEnvC scope cl C X.env) fp) vx tv)
    (hs : ∀ x, foldedSetIterable iter X.env x = pure x := by intro _; rfl) :
    PE X (.DictComp kx vx [⟨tg, iter, ifs, 0⟩] scope pos) (tXDc κ X.prog X.w wi g tt tk tv (own.map (·.2))) := by
  refine ⟨fun pins s σ H Q I h => ?_⟩
  rw [arm_eval_DictComp]
  refine xdc_core κ hu hc hN I hi ok hg ht hk he hs h fun D C s' m H' I' q hn f => ⟨m, hn, fun h'' sb => ?_⟩
  exact ⟨.ref D, H', I'.turned (t' := s'.toks) (fun b o hb e => (sb.2 b hb).trans e) f.1 f.2.1 f.2.2.2.1 f.2.2.2.2.1 f.2.2.2.2.2, rfl, q⟩
/-- over a tuple that stays -/
theorem xdc_tup {κ : Type} [DecidableEq κ] [DKey κ] {P : Program} {w : World} {K : PySem.W.Frag} {a : Addr} {xs : List V} {g : TG} {tt : TT} {tk tv : TE} {vs : List Nat} {σ : L2.St} {H2 : Hp} {D : Addr} {Qd : Hp → Prop} (Pv : Nat → Hp → Prop) (h0 : Pv 0 H2) (hl : ∀ i H, i ≤ xs.length → Pv i H → SqT K H a xs)
    (hs : ∀ i x H, xs[i]? = some x → Pv i H → g x (wipe σ vs) H fun σ2 H2 => wipe σ2 vs = wipe σ vs ∧ tt σ2 H2 fun b H3 => if b = true then tk σ2 H3 fun y H4 => tv σ2 H4 fun z H5 =>
      ∃ (b : Addr) (kvs : List (κ × V)) (k : κ), y = .ref b ∧ DXm P w H5 D kvs ∧ H5 b = some (.tup (DKey.vs k)) ∧ kvs.length < sizeLine ∧ ∀ H6, DXput P w H5 D (putK kvs k z) H6 → Pv (i + 1) H6 else Pv (i + 1) H3) (hd : ∀ H, Pv xs.length H → Qd H) :
    ∃ W : Nat → Nat → Hp → Prop, (∃ m, W 0 m H2) ∧ ∀ i m H, W i m H → ((Itt K a).stop i H ∧ Qd H) ∨ ((Itt K a).go i H ∧ ∃ Nx : Hp → Prop, (∀ H', Nx H' → ∃ m', m' < m ∧ W (i + 1) m' H') ∧
      ∀ x H', (Itt K a).yld i H x H' → g x (wipe σ vs) H' fun σ2 H2 => wipe σ2 vs = wipe σ vs ∧ tt σ2 H2 fun b H3 => if b = true then tk σ2 H3 fun y H4 => tv σ2 H4 fun z H5 =>
        ∃ (b : Addr) (kvs : List (κ × V)) (k : κ), y = .ref b ∧ DXm P w H5 D kvs ∧ H5 b = some (.tup (DKey.vs k)) ∧ kvs.length < sizeLine ∧ ∀ H6, DXput P w H5 D (putK kvs k z) H6 → Nx H6 else Nx H3) := by
  refine ⟨fun i m H => m = xs.length - i ∧ i ≤ xs.length ∧ Pv i H, ⟨xs.length, rfl, Nat.zero_le _, h0⟩, ?_⟩
  rintro i m H ⟨rfl, hi, p⟩
  have q := hl i H hi p
  by_cases hlt : i < xs.length
  · refine .inr ⟨⟨xs, xs[i], q, List.getElem?_eq_getElem hlt⟩, Pv (i + 1), fun H' p' => ⟨xs.length - (i + 1), by omega, rfl, hlt, p'⟩, fun x H' y => ?_⟩
    obtain ⟨e, y⟩ := y
    subst e
    exact hs i x _ (y xs q) p
  · obtain rfl : i = xs.length := by omega
    exact .inl ⟨⟨xs, q, Nat.le_refl _⟩, hd H p⟩
end
end PX
end

section
set_option Elab.async false
set_option maxRecDepth 100000
set_option maxHeartbeats 4000000
set_option linter.all false
/-! Heaps that grow, and what stands for plain data in them. -/
namespace PX
open PySem PySem.Spec PyProof.Rows L2 PR
/-- the tuples stay -/
def Tp (H H' : Hp) : Prop := ∀ b xs, H b = some (.tup xs) → H' b = some (.tup xs)
def Lkb : HO → Prop
  | .dK _ => True
  | .ext _ => True
  | _ => False
/-- all stays; a dict may be locked meanwhile -/
def Le (H H' : Hp) : Prop := ∀ b u, H b = some u → H' b = some u ∨ (Lkb u ∧ ∃ o, H' b = some (.frz o u))
theorem Tp.refl (H : Hp) : Tp H H := fun _ _ h => h
theorem Tp.trans {H H1 H2 : Hp} (a : Tp H H1) (b : Tp H1 H2) : Tp H H2 := fun c xs h => b c xs (a c xs h)
theorem Tp.same {H H' : Hp} (e : Same H H') : Tp H H' := fun b xs h => e b _ h
theorem Tp.upd {H : Hp} {a : Addr} {o : HO} (h : ∀ xs, H a ≠ some (.tup xs)) : Tp H (upd H a o) := fun b xs e => by
  rw [upd_ne fun z => h xs (by rw [← z]; exact e)]
  exact e
theorem Tp.lst {H : Hp} {a : Addr} {o : HO} {ys : List V} (h : H a = some (.lst ys)) : Tp H (L2.upd H a o) := .upd fun xs e => by rw [h] at e; cases e
theorem Tp.ext {H : Hp} {a : Addr} {o : HO} {φ : Heap → Prop} (h : H a = some (.ext φ)) : Tp H (L2.upd H a o) := .upd fun xs e => by rw [h] at e; cases e
theorem Tp.new {H : Hp} {a : Addr} {o : HO} (h : H a = none) : Tp H (L2.upd H a o) := .upd fun xs e => by rw [h] at e; cases e
theorem Le.refl (H : Hp) : Le H H := fun _ _ h => .inl h
theorem Le.same {H H' : Hp} (e : Same H H') : Le H H' := fun b u h => .inl (e b u h)
theorem Le.trans {H H1 H2 : Hp} (a : Le H H1) (b : Le H1 H2) : Le H H2 := fun c u h => by
  rcases a c u h with h1 | ⟨l, o, h1⟩
  · exact b c u h1
  · rcases b c _ h1 with h2 | ⟨l2, o2, h2⟩
    · exact .inr ⟨l, o, h2⟩
    · exact l2.elim
theorem Le.tp {H H' : Hp} (e : Le H H') : Tp H H' := fun b xs h => (e b _ h).elim id fun z => z.1.elim
theorem Le.lst {H H' : Hp} (e : Le H H') {b : Addr} {xs : List V} (h : H b = some (.lst xs)) : H' b = some (.lst xs) := (e b _ h).elim id fun z => z.1.elim
theorem Le.tup {H H' : Hp} (e : Le H H') {b : Addr} {xs : List V} (h : H b = some (.tup xs)) : H' b = some (.tup xs) := e.tp b xs h
theorem Le.ins {H H' : Hp} (e : Le H H') {b C dx : Addr} {fs : List (Str × V)} (h : H b = some (.ins C dx fs)) : H' b = some (.ins C dx fs) := (e b _ h).elim id fun z => z.1.elim
theorem Le.rd {H H' : Hp} (e : Le H H') {b : Addr} {u : HO} (h : Rd H b u) : Rd H' b u := by
  rcases h with h | ⟨o, h⟩
  · rcases e b u h with h | ⟨_, o, h⟩
    · exact .inl h
    · exact .inr ⟨o, h⟩
  · rcases e b _ h with h | ⟨l, _⟩
    · exact .inr ⟨o, h⟩
    · exact l.elim
theorem Le.lock {H : Hp} {d : Addr} {od : Obj} {u : HO} (h : H d = some u) (l : Lkb u) : Le H (L2.upd H d (.frz od u)) := fun b v e => by
  by_cases hb : b = d
  · subst hb
    rw [h] at e
    cases e
    exact .inr ⟨l, od, upd_same⟩
  · exact .inl (by rw [upd_ne hb]; exact e)
theorem sm_new {H0 H : Hp} {p : Addr} {o : HO} (e : Same H0 H) (h : H p = none) : Same H0 (upd H p o) := fun b u q => by
  rw [upd_ne (ne_of_none (e b u q) h)]
  exact e b u q
theorem sm_own {H0 H : Hp} {p : Addr} {o : HO} (e : Same H0 H) (h : H0 p = none) : Same H0 (upd H p o) := fun b u q => by
  rw [upd_ne (ne_of_none q h)]
  exact e b u q
theorem sm_up {H : Hp} {p : Addr} {o : HO} (h : H p = none) : Same H (upd H p o) := sm_new (Same.refl H) h
/-- unlocked again -/
theorem sm_unlock {H0 H : Hp} {d : Addr} {od : Obj} {u : HO} (h0 : H0 d = some u) (e : Same (upd H0 d (.frz od u)) H) : Same H0 (upd H d u) := fun b v q => by
  by_cases hb : b = d
  · subst hb
    rw [h0] at q
    rw [upd_same]
    exact q
  · rw [upd_ne hb]
    exact e b v (by rw [upd_ne hb]; exact q)

/-! ### values that stand for plain data -/
abbrev Rp (α : Type) := Hp → α → V → Prop
/-- such that tuples alone matter -/
structure MonoT {α : Type} (R : Rp α) : Prop where
  mono : ∀ {H H' : Hp} {a : α} {v : V}, Tp H H' → R H a v → R H' a v
structure MonoL {α : Type} (R : Rp α) : Prop where
  mono : ∀ {H H' : Hp} {a : α} {v : V}, Le H H' → R H a v → R H' a v
theorem MonoT.l {α : Type} {R : Rp α} (m : MonoT R) : MonoL R := ⟨fun e h => m.mono e.tp h⟩
abbrev All {α : Type} (R : Rp α) (H : Hp) : List α → List V → Prop := Paired (R H)
theorem All.mono {α : Type} {R : Rp α} {H H' : Hp} (m : MonoT R) (e : Tp H H') {as : List α} {xs : List V} (h : All R H as xs) : All R H' as xs := Paired.mapP h fun _ _ z => m.mono e z
theorem All.monoL {α : Type} {R : Rp α} {H H' : Hp} (m : MonoL R) (e : Le H H') {as : List α} {xs : List V} (h : All R H as xs) : All R H' as xs := Paired.mapP h fun _ _ z => m.mono e z
theorem All.len {α : Type} {R : Rp α} {H : Hp} {as : List α} {xs : List V} (h : All R H as xs) : as.length = xs.length := Paired.length h
theorem All.get {α : Type} {R : Rp α} {H : Hp} {as : List α} {xs : List V} (h : All R H as xs) : ∀ {i : Nat} {a : α}, as[i]? = some a → ∃ x, xs[i]? = some x ∧ R H a x := by
  induction h with
  | nil => intro i a e; simp at e
  | cons h t ih =>
    intro i a e
    cases i with
    | zero => simp at e; subst e; exact ⟨_, rfl, h⟩
    | succ i => exact ih (by simpa using e)
theorem All.get' {α : Type} {R : Rp α} {H : Hp} {as : List α} {xs : List V} (h : All R H as xs) : ∀ {i : Nat} {x : V}, xs[i]? = some x → ∃ a, as[i]? = some a ∧ R H a x := by
  induction h with
  | nil => intro i a e; simp at e
  | cons h t ih =>
    intro i a e
    cases i with
    | zero => simp at e; subst e; exact ⟨_, rfl, h⟩
    | succ i => exact ih (by simpa using e)
theorem All.snoc {α : Type} {R : Rp α} {H : Hp} {as : List α} {xs : List V} {a : α} {x : V} (h : All R H as xs) (r : R H a x) : All R H (as ++ [a]) (xs ++ [x]) := Paired.snoc h r
theorem All.app {α : Type} {R : Rp α} {H : Hp} {as bs : List α} {xs ys : List V} (h : All R H as xs) (g : All R H bs ys) : All R H (as ++ bs) (xs ++ ys) := by
  induction h with
  | nil => exact g
  | cons h t ih => exact .cons h ih
theorem All.rev {α : Type} {R : Rp α} {H : Hp} {as : List α} {xs : List V} (h : All R H as xs) : All R H as.reverse xs.reverse := by
  induction h with
  | nil => exact .nil
  | cons h t ih => rw [List.reverse_cons, List.reverse_cons]; exact ih.snoc h
theorem All.map {α β : Type} {R : Rp α} {S : Rp β} {H : Hp} {f : α → β} {as : List α} {xs : List V} (h : All R H as xs) (hr : ∀ a x, R H a x → S H (f a) x) : All S H (as.map f) xs := by
  induction h with
  | nil => exact .nil
  | cons h t ih => exact .cons (hr _ _ h) ih
theorem All.take {α : Type} {R : Rp α} {H : Hp} : ∀ {as : List α} {xs : List V} (n : Nat), All R H as xs → All R H (as.take n) (xs.take n)
  | _, _, 0, _ => .nil
  | _, _, _ + 1, .nil => .nil
  | _, _, n + 1, .cons h t => .cons h (All.take n t)
def intR : Rp Int := fun _ i v => v = .int i
theorem intR_m : MonoT intR := ⟨fun _ h => h⟩
theorem all_ints : ∀ {H : Hp} {ns : List Int} {xs : List V}, All intR H ns xs → xs = ns.map V.int
  | _, _, _, .nil => rfl
  | _, _, _, .cons h t => by rw [List.map_cons, ← all_ints t]; exact congrArg (· :: _) h
theorem ints_all {H : Hp} : ∀ ns : List Int, All intR H ns (ns.map V.int)
  | [] => .nil
  | _ :: r => .cons rfl (ints_all r)
def keyR (κ : Type) [DKey κ] : Rp κ := fun H k v => ∃ a, v = .ref a ∧ H a = some (.tup (DKey.vs k))
theorem keyR_m {κ : Type} [DKey κ] : MonoT (keyR κ) := ⟨fun e ⟨a, h1, h2⟩ => ⟨a, h1, e a _ h2⟩⟩
abbrev hdR : Rp Hd := keyR Hd
abbrev entR : Rp Ent := keyR Ent
/-- a tuple of such -/
def tupR {α : Type} (R : Rp α) : Rp (List α) := fun H as v => ∃ a xs, v = .ref a ∧ H a = some (.tup xs) ∧ All R H as xs
theorem tupR_m {α : Type} {R : Rp α} (m : MonoT R) : MonoT (tupR R) := ⟨fun e ⟨a, xs, h1, h2, h3⟩ => ⟨a, xs, h1, e a _ h2, h3.mono m e⟩⟩
/-- a list of such -/
def lstR {α : Type} (R : Rp α) : Rp (List α) := fun H as v => ∃ a xs, v = .ref a ∧ H a = some (.lst xs) ∧ All R H as xs
theorem lstR_m {α : Type} {R : Rp α} (m : MonoT R) : MonoL (lstR R) := ⟨fun e ⟨a, xs, h1, h2, h3⟩ => ⟨a, xs, h1, e.lst h2, h3.mono m e.tp⟩⟩
/-- a pair, as a tuple -/
def prR {α β : Type} (R : Rp α) (S : Rp β) : Rp (α × β) := fun H p v => ∃ a x y, v = .ref a ∧ H a = some (.tup [x, y]) ∧ R H p.1 x ∧ S H p.2 y
theorem prR_m {α β : Type} {R : Rp α} {S : Rp β} (m : MonoT R) (n : MonoT S) : MonoT (prR R S) := ⟨fun e ⟨a, x, y, h1, h2, h3, h4⟩ => ⟨a, x, y, h1, e a _ h2, m.mono e h3, n.mono e h4⟩⟩
def blR : Rp Bool := fun _ b v => v = .bl b
theorem blR_m : MonoT blR := ⟨fun _ h => h⟩
/-- None, or such -/
def optR {α : Type} (R : Rp α) : Rp (Option α) := fun H o v => match o with
  | none => v = .non
  | some a => R H a v
theorem optR_m {α : Type} {R : Rp α} (m : MonoT R) : MonoT (optR R) := ⟨fun {H H' o v} e h => by
  cases o with
  | none => exact h
  | some a => exact m.mono e h⟩
abbrev rowR : Rp RowJ := prR intR (tupR intR)
abbrev mvR : Rp Mv := prR intR (optR intR)
abbrev cfgR : Rp (Int × List Int) := prR intR (tupR intR)
theorem rowR_m : MonoT rowR := prR_m intR_m (tupR_m intR_m)
theorem mvR_m : MonoT mvR := prR_m intR_m (optR_m intR_m)
theorem cfgR_m : MonoT cfgR := prR_m intR_m (tupR_m intR_m)
/-- a move of the program's own -/
def movR : Rp Mov := fun H mv v => ∃ a x y, v = .ref a ∧ H a = some (.tup [x, .bl mv.m, .int (mv.i : Nat), y]) ∧ hdR H mv.e x ∧ optR entR H mv.p y
theorem movR_m : MonoT movR := ⟨fun e ⟨a, x, y, h1, h2, h3, h4⟩ => ⟨a, x, y, h1, e a _ h2, keyR_m.mono e h3, (optR_m keyR_m).mono e h4⟩⟩

/-! ### steps, machines, marks -/
/-- the classes' addresses -/
structure Cs where
  st : Addr
  ma : Addr
  tk : Addr
  tb : Addr
  rw : Addr
  hd : Addr
  to : Addr
def stepF (p : Stp) (t : Addr) : List (Str × V) := putF "weight" (.int p.w) (putF "laid" (.ref t) (putF "goal" (.int p.g) (putF "letter" (.int p.l) (putF "state" (.int p.s) []))))
def stepR (c : Cs) : Rp Stp := fun H p v => ∃ a dx t, v = .ref a ∧ H a = some (.ins c.st dx (stepF p t)) ∧ H t = some (.tup (p.laid.map V.int))
theorem stepR_m {c : Cs} : MonoL (stepR c) := ⟨fun e ⟨a, dx, t, h1, h2, h3⟩ => ⟨a, dx, t, h1, e.ins h2, e.tup h3⟩⟩
def machF (M : Mach) (t : Addr) : List (Str × V) := putF "steps" (.ref t) (putF "letters" (.int M.lt) (putF "states" (.int M.st) []))
/-- the machine's steps, as the tuple at t -/
def StepsAt (c : Cs) (M : Mach) (H : Hp) (t : Addr) : Prop := ∃ xs, H t = some (.tup xs) ∧ All (stepR c) H M.steps xs
theorem StepsAt.mono {c : Cs} {M : Mach} {H H' : Hp} {t : Addr} (e : Le H H') (h : StepsAt c M H t) : StepsAt c M H' t := let ⟨xs, h1, h2⟩ := h; ⟨xs, e.tup h1, h2.monoL stepR_m e⟩
def machR (c : Cs) : Rp Mach := fun H M v => ∃ a dx t, v = .ref a ∧ H a = some (.ins c.ma dx (machF M t)) ∧ StepsAt c M H t
theorem machR_m {c : Cs} : MonoL (machR c) := ⟨fun e ⟨a, dx, t, h1, h2, h3⟩ => ⟨a, dx, t, h1, e.ins h2, h3.mono e⟩⟩
/-- the dict of the marked steps -/
def MarksAt (mk : Int → Bool) (H : Hp) (a : Addr) : Prop := ∃ kvs : List (Key × V), Rd H a (.dK kvs) ∧ ∀ i : Int, (valV kvs (Sum.inl i)).isSome = mk i
theorem MarksAt.mono {mk : Int → Bool} {H H' : Hp} {a : Addr} (e : Le H H') (h : MarksAt mk H a) : MarksAt mk H' a := let ⟨kvs, h1, h2⟩ := h; ⟨kvs, e.rd h1, h2⟩
theorem MarksAt.get {mk : Int → Bool} {H : Hp} {a : Addr} (h : MarksAt mk H a) (i : Int) : ∃ o, DGet H a (.int i) o ∧ o.isSome = mk i := by
  obtain ⟨kvs, h1, h2⟩ := h
  exact ⟨valV kvs (Sum.inl i), .inl ⟨kvs, Sum.inl i, h1, rfl, rfl⟩, h2 i⟩

/-! ### fields -/
theorem len_put {f : Str} {v : V} {fs : List (Str × V)} {n : Nat} (h : fs.length ≤ n) : (putF f v fs).length ≤ n + 1 := Nat.le_trans (length_putF f v fs) (Nat.succ_le_succ h)
theorem few {fs : List (Str × V)} {n : Nat} (h : fs.length ≤ n) (hn : n < 1000) : fs.length < 1000 := Nat.lt_of_le_of_lt h hn
theorem lk_hit {f : Str} {v : V} {fs : List (Str × V)} : (putF f v fs).lookup f = some v := by rw [lookup_putF, if_pos rfl]
theorem lk_miss {f g : Str} {v : V} {fs : List (Str × V)} {o : Option V} (h : ¬ g = f) (q : fs.lookup g = o) : (putF f v fs).lookup g = o := by rw [lookup_putF, if_neg h]; exact q
theorem ne_ws : ¬ (("state" : Str) = "weight") := by decide +kernel
theorem ne_wl : ¬ (("letter" : Str) = "weight") := by decide +kernel
theorem ne_wg : ¬ (("goal" : Str) = "weight") := by decide +kernel
theorem ne_wa : ¬ (("laid" : Str) = "weight") := by decide +kernel
theorem ne_as : ¬ (("state" : Str) = "laid") := by decide +kernel
theorem ne_al : ¬ (("letter" : Str) = "laid") := by decide +kernel
theorem ne_ag : ¬ (("goal" : Str) = "laid") := by decide +kernel
theorem ne_gs : ¬ (("state" : Str) = "goal") := by decide +kernel
theorem ne_gl : ¬ (("letter" : Str) = "goal") := by decide +kernel
theorem ne_ls : ¬ (("state" : Str) = "letter") := by decide +kernel
theorem stepF_state (p : Stp) (t : Addr) : (stepF p t).lookup ("state" : Str) = some (.int p.s) := lk_miss ne_ws (lk_miss ne_as (lk_miss ne_gs (lk_miss ne_ls lk_hit)))
theorem stepF_letter (p : Stp) (t : Addr) : (stepF p t).lookup ("letter" : Str) = some (.int p.l) := lk_miss ne_wl (lk_miss ne_al (lk_miss ne_gl lk_hit))
theorem stepF_goal (p : Stp) (t : Addr) : (stepF p t).lookup ("goal" : Str) = some (.int p.g) := lk_miss ne_wg (lk_miss ne_ag lk_hit)
theorem stepF_laid (p : Stp) (t : Addr) : (stepF p t).lookup ("laid" : Str) = some (.ref t) := lk_miss ne_wa lk_hit
theorem stepF_weight (p : Stp) (t : Addr) : (stepF p t).lookup ("weight" : Str) = some (.int p.w) := lk_hit
theorem ne_st_ss : ¬ (("states" : Str) = "steps") := by decide +kernel
theorem ne_st_ls : ¬ (("letters" : Str) = "steps") := by decide +kernel
theorem ne_ls_ss : ¬ (("states" : Str) = "letters") := by decide +kernel
theorem machF_states (M : Mach) (t : Addr) : (machF M t).lookup ("states" : Str) = some (.int M.st) := lk_miss ne_st_ss (lk_miss ne_ls_ss lk_hit)
theorem machF_letters (M : Mach) (t : Addr) : (machF M t).lookup ("letters" : Str) = some (.int M.lt) := lk_miss ne_st_ls lk_hit
theorem machF_steps (M : Mach) (t : Addr) : (machF M t).lookup ("steps" : Str) = some (.ref t) := lk_hit
end PX
end

section
set_option Elab.async false
set_option maxRecDepth 100000
set_option maxHeartbeats 4000000
set_option linter.all false
/-! What pure expressions evaluate to. -/
namespace PX
open PySem PySem.Spec PyProof.Rows L2 PR
section
variable {σ : L2.St} {H : Hp} {ta tb tc te : TE} {K : PySem.W.Frag} {i j k : Int} {x y z v : V} {D : Ends} {ts tu : TS}
theorem v_chain (ha : Val ta σ H (.int i)) (hb : Val tb σ H (.int j)) (hc : Val tc σ H (.int k)) :
    Val (tChain (rI0 fun i j => V.bl (decide (i ≤ j))) (rI0 fun i j => V.bl (decide (i < j))) ta tb tc) σ H (.bl (decide (i ≤ j ∧ j < k))) := by
  intro Q q
  refine ha _ (hb _ ⟨i, j, rfl, rfl, decide (i ≤ j), rfl, ?_⟩)
  by_cases h : i ≤ j
  · rw [decide_eq_true h]
    refine iteT (hc _ ⟨j, k, rfl, rfl, ?_⟩)
    have e : decide (i ≤ j ∧ j < k) = decide (j < k) := by simp [h]
    show Q (.bl (decide (j < k))) H
    rw [← e]; exact q
  · rw [decide_eq_false h]
    refine iteF ?_
    have e : decide (i ≤ j ∧ j < k) = false := by simp [h]
    rw [← e]; exact q
theorem v_len {p : Addr} {ys : List V} (h : Val ta σ H (.ref p)) (hs : SqL K H p ys ∨ SqT K H p ys) :
    Val (tCB (fun xs H Q => ∃ p ys, xs = [V.ref p] ∧ (SqL K H p ys ∨ SqT K H p ys) ∧ Q (.int ys.length) H) (tCons ta tNil)) σ H (.int (ys.length : Nat)) := fun Q q => h _ ⟨p, ys, rfl, hs, q⟩
theorem v_andV {a b : Bool} (h1 : Val ta σ H (.bl a)) (h2 : a = true → Val tb σ H (.bl b)) (h3 : a = false → b = false) : Val (tAndV ta tb) σ H (.bl b) := fun Q q => h1 _ ⟨a, rfl, by
  cases a with
  | true => exact iteT (h2 rfl Q q)
  | false => exact iteF (by rw [← h3 rfl]; exact q)⟩
theorem v_and {a b : Bool} (h1 : Val ta σ H (.bl a)) (h2 : a = true → Val tb σ H (.bl b)) : Val (tAndV ta tb) σ H (.bl (a && b)) := fun Q q => h1 _ ⟨a, rfl, by
  cases a with
  | true => exact iteT (h2 rfl Q q)
  | false => exact iteF q⟩
theorem v_or {a b : Bool} (h1 : Val ta σ H (.bl a)) (h2 : a = false → Val tb σ H (.bl b)) : Val (tOrV ta tb) σ H (.bl (a || b)) := fun Q q => h1 _ ⟨a, rfl, by
  cases a with
  | true => exact iteT q
  | false => exact iteF (h2 rfl Q q)⟩
theorem v_not {a : Bool} (h1 : Val ta σ H (.bl a)) : Val (tNotV ta) σ H (.bl (!a)) := fun Q q => h1 _ ⟨a, rfl, q⟩
theorem v_lt (ha : Val ta σ H (.int i)) (hb : Val tb σ H (.int j)) : Val (tOp (rI0 fun i j => V.bl (decide (i < j))) ta tb) σ H (.bl (decide (i < j))) := val_op ha hb fun Q q => ⟨i, j, rfl, rfl, q⟩
theorem v_gt (ha : Val ta σ H (.int i)) (hb : Val tb σ H (.int j)) : Val (tOp (rI0 fun i j => V.bl (decide (j < i))) ta tb) σ H (.bl (decide (j < i))) := val_op ha hb fun Q q => ⟨i, j, rfl, rfl, q⟩
theorem v_ge (ha : Val ta σ H (.int i)) (hb : Val tb σ H (.int j)) : Val (tOp (rI0 fun i j => V.bl (decide (j ≤ i))) ta tb) σ H (.bl (decide (j ≤ i))) := val_op ha hb fun Q q => ⟨i, j, rfl, rfl, q⟩
theorem v_eq (ha : Val ta σ H x) (hb : Val tb σ H y) (hs : scal x y = true) : Val (tOp rEq ta tb) σ H (.bl (decide (x = y))) := val_op ha hb fun Q q => ⟨hs, q⟩
theorem v_ne (ha : Val ta σ H x) (hb : Val tb σ H y) (hs : scal x y = true) : Val (tOp rNe ta tb) σ H (.bl (!decide (x = y))) := val_op ha hb fun Q q => ⟨hs, q⟩
theorem v_add (ha : Val ta σ H (.int i)) (hb : Val tb σ H (.int j)) : Val (tOp (rI0 fun i j => V.int (i + j)) ta tb) σ H (.int (i + j)) := val_op ha hb fun Q q => ⟨i, j, rfl, rfl, q⟩
theorem v_sub (ha : Val ta σ H (.int i)) (hb : Val tb σ H (.int j)) : Val (tOp (rI0 fun i j => V.int (i - j)) ta tb) σ H (.int (i - j)) := val_op ha hb fun Q q => ⟨i, j, rfl, rfl, q⟩
theorem v_isN (ha : Val ta σ H x) : Val (tOp (fun x y H Q => y = .non ∧ Q (.bl (decide (x = .non))) H) ta (tC .non)) σ H (.bl (decide (x = .non))) := val_op ha val_c fun Q q => ⟨rfl, q⟩
theorem v_isN1 (ha : Val ta σ H .non) : Val (tOp (fun x y H Q => y = .non ∧ Q (.bl (decide (x = .non))) H) ta (tC .non)) σ H (.bl true) := v_isN ha
theorem v_isN0 {a : Addr} (ha : Val ta σ H (.ref a)) : Val (tOp (fun x y H Q => y = .non ∧ Q (.bl (decide (x = .non))) H) ta (tC .non)) σ H (.bl false) := v_isN ha
theorem v_notN1 (ha : Val ta σ H .non) : Val (tOp (fun x y H Q => y = .non ∧ Q (.bl (!decide (x = .non))) H) ta (tC .non)) σ H (.bl false) := val_op ha val_c fun Q q => ⟨rfl, q⟩
theorem v_notN0 {a : Addr} (ha : Val ta σ H (.ref a)) : Val (tOp (fun x y H Q => y = .non ∧ Q (.bl (!decide (x = .non))) H) ta (tC .non)) σ H (.bl true) := val_op ha val_c fun Q q => ⟨rfl, q⟩
theorem v_notN (ha : Val ta σ H x) : Val (tOp (fun x y H Q => y = .non ∧ Q (.bl (!decide (x = .non))) H) ta (tC .non)) σ H (.bl (!decide (x = .non))) := val_op ha val_c fun Q q => ⟨rfl, q⟩
theorem v_ixT {p : Addr} {xs : List V} (ha : Val ta σ H (.ref p)) (hb : Val tb σ H (.int i)) (hs : H p = some (.tup xs)) (hi : atI xs i = some v) : Val (tOp (rIxT K) ta tb) σ H v := val_op ha hb fun Q q => ⟨p, xs, i, v, rfl, rfl, SqT.of hs, hi, q⟩
theorem v_ixL {p : Addr} {xs : List V} (ha : Val ta σ H (.ref p)) (hb : Val tb σ H (.int i)) (hs : H p = some (.lst xs)) (hi : atI xs i = some v) : Val (tOp (rIxL K) ta tb) σ H v := val_op ha hb fun Q q => ⟨p, xs, i, v, rfl, rfl, SqL.of hs, hi, q⟩
theorem v_get {a : Addr} {o : Option V} (hd : Val ta σ H (.ref a)) (hk : Val tb σ H y) (g : DGet H a y (some v)) : Val (tDGet ta tb) σ H v := fun Q q => hd _ (hk _ ⟨a, v, rfl, g, q⟩)
/-- index in marks -/
theorem v_in {a : Addr} {mk : Int → Bool} (hk : Val ta σ H (.int i)) (hd : Val tb σ H (.ref a)) (m : MarksAt mk H a) : Val (tDIn ta tb) σ H (.bl (mk i)) := fun Q q => hk _ (hd _ (by
  obtain ⟨o, g, e⟩ := m.get i
  exact ⟨a, o, rfl, g, by rw [e]; exact q⟩))
theorem v_xget {κ : Type} [DecidableEq κ] [DKey κ] {P : Program} {w : World} {a b : Addr} {kvs : List (κ × V)} {k : κ} (hd : Val ta σ H (.ref a)) (hk : Val tb σ H (.ref b)) (d : DX P w H a kvs) (eb : H b = some (.tup (DKey.vs k))) (l : valV kvs k = some v) :
    Val (tXGet κ P w ta tb) σ H v := fun Q q => hd _ (hk _ ⟨a, b, kvs, k, v, rfl, rfl, d, eb, l, q⟩)
theorem v_xin {κ : Type} [DecidableEq κ] [DKey κ] {P : Program} {w : World} {a b : Addr} {kvs : List (κ × V)} {k : κ} (hk : Val ta σ H (.ref b)) (hd : Val tb σ H (.ref a)) (d : DX P w H a kvs) (eb : H b = some (.tup (DKey.vs k))) :
    Val (tXIn κ P w ta tb) σ H (.bl (valV kvs k).isSome) := fun Q q => hk _ (hd _ ⟨a, b, kvs, k, rfl, rfl, d, eb, q⟩)
theorem v_xnin {κ : Type} [DecidableEq κ] [DKey κ] {P : Program} {w : World} {a b : Addr} {kvs : List (κ × V)} {k : κ} (hk : Val ta σ H (.ref b)) (hd : Val tb σ H (.ref a)) (d : DX P w H a kvs) (eb : H b = some (.tup (DKey.vs k))) :
    Val (tXNin κ P w ta tb) σ H (.bl (!(valV kvs k).isSome)) := fun Q q => hk _ (hd _ ⟨a, b, kvs, k, rfl, rfl, d, eb, q⟩)
/-- a test by a value -/
theorem a_val {b : Bool} (h : Val te σ H (.bl b)) : Ans (tB te) σ H b := fun Q q => h _ ⟨b, rfl, q⟩
theorem a_test {b : Bool} (h : Val te σ H (.bl b)) : Ans (tTest te) σ H b := fun Q q => h _ ⟨b, rfl, q⟩
theorem a_or {t u : TT} {a b : Bool} (h1 : Ans t σ H a) (h2 : a = false → Ans u σ H b) : Ans (tOr t u) σ H (a || b) := fun Q q => h1 _ (by
  cases a with
  | true => exact iteT q
  | false => exact iteF (h2 rfl Q q))
theorem a_and {t u : TT} {a b : Bool} (h1 : Ans t σ H a) (h2 : a = true → Ans u σ H b) : Ans (tAnd t u) σ H (a && b) := fun Q q => h1 _ (by
  cases a with
  | true => exact iteT (h2 rfl Q q)
  | false => exact iteF q)
theorem a_not {t : TT} {a : Bool} (h1 : Ans t σ H a) : Ans (tNot t) σ H (!a) := fun Q q => h1 _ q
/-- an if by its answer -/
theorem s_if {c : TT} {b : Bool} (h : Ans c σ H b) (h1 : b = true → ts D σ H) (h2 : b = false → tu D σ H) : tIfS c ts tu D σ H := h _ (by
  cases b with
  | true => exact iteT (h1 rfl)
  | false => exact iteF (h2 rfl))
/-- an if without else, and what follows -/
theorem q_when {c : TT} {b : Bool} (h : Ans c σ H b) (h1 : b = true → ts { D with nx := tu D } σ H) (h2 : b = false → tu D σ H) : tSeq (tIfS c ts tNext) tu D σ H := h _ (by
  cases b with
  | true => exact iteT (h1 rfl)
  | false => exact iteF (h2 rfl))
theorem q_if {c : TT} {tw : TS} {b : Bool} (h : Ans c σ H b) (h1 : b = true → ts { D with nx := tu D } σ H) (h2 : b = false → tw { D with nx := tu D } σ H) : tSeq (tIfS c ts tw) tu D σ H := h _ (by
  cases b with
  | true => exact iteT (h1 rfl)
  | false => exact iteF (h2 rfl))
theorem q_set {i : Nat} (h : Val te σ H v) (q : tu D (σ.set i (some v)) H) : tSeq (tAsg te (gName i)) tu D σ H := h _ q
theorem g_name {i : Nat} {Q : L2.St → Hp → Prop} (q : Q (σ.set i (some v)) H) : gName i v σ H Q := q
theorem s_ret (h : Val te σ H v) (q : D.rt v H) : tRet te D σ H := h _ q
theorem s_set {i : Nat} (h : Val te σ H v) (q : D.nx (σ.set i (some v)) H) : tAsg te (gName i) D σ H := h _ q
/-- a tuple made of values -/
theorem v_nil {Q : List V → Hp → Prop} (q : Q [] H) : tNil σ H Q := q
theorem v_cons {ta : TE} {t : TA} {Q : List V → Hp → Prop} (h : Val ta σ H x) (q : t σ H fun vs H1 => Q (x :: vs) H1) : tCons ta t σ H Q := h _ q
end
end PX
end

section
set_option Elab.async false
set_option maxRecDepth 100000
set_option maxHeartbeats 4000000
set_option linter.all false
/-! enumerate over a tuple; loops told by what their sources evaluate to. -/
namespace PX
open PySem PySem.Spec PyProof.Rows L2 PR
theorem enum_newT {v : Value} {o : Obj} {G : Heap → Prop} (B : Begins v o G) :
    Meets (Builtin.«enumerate.__new__» ⟨[.type "enumerate", v], []⟩) (fun _ R s => G s.heap ∧
      R (.ok (.ret (.ref (s.heap.push o).objs.size))) { s with heap := (s.heap.push o).push { cls := .type "enumerate", data := .fields #[.none, .bool false, .ref s.heap.objs.size, rawInt 0, .none, .none] } }) :=
  .of_wp fun prog w A R s h => by
    obtain ⟨hp, g, d, tk, os⟩ := s
    obtain ⟨hg, h⟩ := h
    have hsub := sub_enumerate
    have begins : ∀ {A' : Around} {E : Value → Shared → Prop} {Q : Value → Shared → Prop}, Q (.ref hp.objs.size) ⟨hp.push o, g, d, tk, os⟩ → wpAny (model prog w) A' (pyIter v) Q E ⟨hp, g, d, tk, os⟩ := fun q => B.iter prog w _ _ ⟨hp, g, d, tk, os⟩ _ hg q
    wp_walk using begins
    refine wpAny_stack_any fun st => wpAny_pure ?_
    split
    · rename_i cl _ _ _ _ _
      cases (cl == Value.type "enumerate") <;> (wp_walk using begins) <;> exact ⟨_, rfl, h⟩
    · wp_walk using begins
      exact ⟨_, rfl, h⟩
theorem enum_callT {prog : Program} {w : World} {A : Around} {E : Value → Shared → Prop} {s : Shared} {t : Addr} {items : Array Value} {Q : Value → Shared → Prop} (ht : s.heap.IsTuple t items)
    (h : ∀ h', IsEnum h' (s.heap.objs.size + 1) s.heap.objs.size 0 .none → h'.IsTupleIter s.heap.objs.size t 0 → (∀ b o, s.heap.get? b = some o → h'.get? b = some o) → Q (.ref (s.heap.objs.size + 1)) { s with heap := h' }) :
    wpAny (model prog w) A (call (.type "enumerate") [.ref t]) Q E s := by
  refine callType_new F.called_enumerate (by decide) (F.typeCall_enumerate_1 _) (F.newCall_enumerate_1 _) (fun obj => F.args_object_init_2 obj _) F.entry_enumerate_new (enum_newT (begins_tuple t items)) ⟨ht, ?_⟩
  generalize ho : ({ cls := .type "tuple_iterator", data := .fields #[.ref t, .int 0 0] } : Obj) = o
  have fr : o.isFreed = false := by rw [← ho]; rfl
  have hz : (s.heap.push o).objs.size = s.heap.objs.size + 1 := Heap.size_push ..
  show _ ∧ _
  rw [hz]
  have he := Heap.get?_push_size (s.heap.push o) (o := { cls := .type "enumerate", data := .fields #[.none, .bool false, .ref s.heap.objs.size, rawInt 0, .none, .none] }) rfl
  rw [hz] at he
  exact ⟨⟨_, he, rfl⟩, h _ he ⟨o, Heap.get?_push_of_some _ (Heap.get?_push_size _ fr), by rw [← ho], by rw [← ho]; rfl⟩ fun b ob q => Heap.get?_push_of_some _ (Heap.get?_push_of_some _ q)⟩
/-- the tuple at a as it stands, each item in a new pair -/
def ItE (K : PySem.W.Frag) (a : Addr) : It :=
  ⟨fun i H => ∃ (xs : List V) (x : V), SqT K H a xs ∧ xs[i]? = some x, fun i H v H' => ∃ T x, v = .ref T ∧ H T = none ∧ H' = upd H T (.tup [.int (i : Nat), x]) ∧ ∀ xs, SqT K H a xs → xs[i]? = some x, fun i H => ∃ xs : List V, SqT K H a xs ∧ xs.length ≤ i⟩
theorem turn_E {P : Program} {w : World} {K : PySem.W.Frag} {elts : List Expr} {kk : Nat} {tpos : Pos} (a e it : Addr) :
    Turn P w K (.Tuple elts kk tpos) (ItE K a) [e, it] e (fun i h => (∃ old, IsEnum h e it ((i : Nat) : Int) old) ∧ h.IsTupleIter it a i ∧ e ≠ it) where
  mem := List.mem_cons_self
  obj := fun i h st b hb => by
    obtain ⟨⟨old, he⟩, ⟨o, ho, _, hd⟩, _⟩ := st
    rcases List.mem_cons.mp hb with z | z
    · rw [z]; exact ⟨_, he, fun v q => nomatch q⟩
    · rw [List.mem_singleton.mp z]; exact ⟨o, ho, fun v q => by rw [hd] at q; cases q⟩
  keep := fun i h h' st k => by
    obtain ⟨⟨old, he⟩, hi, hne⟩ := st
    exact ⟨⟨old, k e List.mem_cons_self _ he⟩, hi.at fun o q => k it (List.mem_cons_of_mem _ List.mem_cons_self) o q, hne⟩
  item := by
    intro X hP hw hK hc i pins s σ H E I hf st hg
    subst hP hw hK
    obtain ⟨⟨old, he⟩, hit, hne⟩ := st
    obtain ⟨xs, x, hq, hx⟩ := hg
    obtain ⟨its, rv, p, hz⟩ := I.tuple hq
    obtain ⟨u, hu, ru⟩ := rv.get hx
    have hel : e < s.heap.objs.size := Heap.lt_size he
    have hil : it < s.heap.objs.size := by obtain ⟨_, q, _⟩ := hit; exact Heap.lt_size q
    obtain ⟨oT, hoT, cT, nT, dT⟩ := id p
    have hai : a ≠ it := fun z => by
      obtain ⟨oi, qi, ci, _⟩ := hit
      rw [z, qi] at hoT
      cases hoT
      rw [ci] at cT
      exact absurd cT (by decide)
    have hae : e ∉ [it, a] := fun z => by
      rcases List.mem_cons.mp z with z | z
      · exact hne z
      · have z := List.mem_singleton.mp z
        rw [← z] at hoT
        rw [show s.heap.get? e = _ from he] at hoT
        cases hoT
        exact absurd (show Value.type "enumerate" = Value.type "tuple" from cT) (by decide)
    have hlt : i < its.toArray.size := by
      have h1 := rv.length
      have h2 := (List.getElem?_eq_some_iff.mp hx).1
      rw [List.size_toArray]
      omega
    refine wpAny_pyNext_enum_itemC (Draws.tuple (prog := X.prog) (w := X.w) (A := X.A.in1) (I.ok.hd hc) it a hai its.toArray) he ⟨hit, p⟩ hlt hne hae fun y h' tk hy ho hst' hT hsz hk => ?_
    have ey : y = u := by
      have h1 : its.toArray[i]? = some u := by simpa using hu
      rw [h1] at hy
      exact (Option.some.inj hy).symm
    subst ey
    refine ⟨_, rfl, wpAny_letOwnedTupleGo_enum (s := { s with heap := h', toks := tk + 1 }) ho fun h'' he' sb => ?_⟩
    have hT2 : h''.get? s.heap.objs.size = some { cls := .type "tuple", data := .seq #[.int i tk, y] } := (sb.2 _ (Nat.ne_of_gt hel)).trans hT
    have new : ObjOk X.prog X.w (upd H s.heap.objs.size (.tup [.int (i : Nat), x])) h'' s.heap.objs.size (.tup [.int (i : Nat), x]) := ⟨by show 2 ≤ sizeLine; decide, [.int i tk, y], .cons ⟨_, rfl⟩ (.cons ru .nil), ⟨_, hT2, rfl, _, rfl⟩⟩
    have J : Inv X pins σ (upd H s.heap.objs.size (.tup [.int (i : Nat), x])) { s with heap := h'', toks := tk + 1 } :=
      I.turnedNew (ch := [e, it]) (fun b ob hb q => (sb.2 b fun z => hb (by rw [z]; exact List.mem_cons_self)).trans (hk b ob (fun z => hb (by rw [z]; exact List.mem_cons_self)) (fun z => hb (by rw [z]; exact List.mem_cons_of_mem _ List.mem_cons_self)) q)) hf (Nat.le_refl _) new
    refine ⟨.ref s.heap.objs.size, _, J, rfl, ⟨_, x, rfl, I.hok.fresh (Nat.le_refl _), rfl, fun ys hy => by rw [I.tuple_inj hy hq]; exact hx⟩, ⟨⟨y, ?_⟩, hst'.1.at fun o q => (sb.2 it (Ne.symm hne)).trans q, hne⟩, fun b hb => ?_⟩
    · have e1 : ((i + 1 : Nat) : Int) = (i : Int) + 1 := by omega
      rw [e1]
      exact he'
    · have hb' : b < s.heap.objs.size := by
        rcases List.mem_cons.mp hb with z | z
        · rw [z]; exact hel
        · rw [List.mem_singleton.mp z]; exact hil
      rw [upd_ne (Nat.ne_of_lt hb')]
      exact (hf b hb).1
  done := by
    intro X hP hw hK hc i pins s σ H E I hf st hg
    subst hP hw hK
    obtain ⟨⟨old, he⟩, hit, hne⟩ := st
    obtain ⟨xs, hq, hx⟩ := hg
    obtain ⟨its, rv, p, hz⟩ := I.tuple hq
    obtain ⟨g0, g1, g2, g3, g4, g5⟩ := hf it (List.mem_cons_of_mem _ List.mem_cons_self)
    obtain ⟨oT, hoT, cT, nT, dT⟩ := id p
    have hai : a ≠ it := fun z => by
      obtain ⟨oi, qi, ci, _⟩ := hit
      rw [z, qi] at hoT
      cases hoT
      rw [ci] at cT
      exact absurd cT (by decide)
    have hl := rv.length
    -- the end is the same at every count from the last on
    have D : Draws X.prog X.w X.A.in1 it [it, a] i (fun _ _ => True) (fun j h => h.IsTupleIter it a i ∧ h.IsTuple a its.toArray ∧ j = i) := {
      live := fun _ _ st => let ⟨⟨o, ho, _⟩, _⟩ := st; ⟨o, ho⟩
      frame := fun _ _ _ st hk => ⟨st.1.at fun o q => hk it List.mem_cons_self o q, st.2.1.at fun o q => hk a (List.mem_cons_of_mem _ List.mem_cons_self) o q, st.2.2⟩
      item := fun j s' Q' E' hj st => absurd hj (by rw [st.2.2]; exact Nat.lt_irrefl i)
      done := fun s' Q' E' st hE => wpAny_nextOf_tuple_end (I.ok.hd hc) st.1 st.2.1 (Array.getElem?_eq_none (by rw [List.size_toArray]; omega)) hE }
    exact wpAny_pyNext_enum_endD D he ⟨hit, p, rfl⟩ fun h' eb => ⟨rfl, I.turned (t' := s.toks) (fun b o hb q => eb b o hb q) g0 g1 g3 g4 g5⟩
  self := fun A i s Q E st h => let ⟨⟨_, he⟩, _⟩ := st; wpAny_pyIter_enum he h
def iEnumT (K : PySem.W.Frag) (ta : TA) : TI := fun σ H R => ta σ H fun vs H1 => ∃ a xs, vs = [.ref a] ∧ SqT K H1 a xs ∧ R (ItE K a) H1
theorem pi_enumT {X : Cx} {e : Expr} {ta : TA} {p pos tpos : Pos} {elts : List Expr} {kk : Nat} (hg : Gl X "enumerate") (hm : X.mg "enumerate" = none) (ha : PA X [e] ta) (hs : starEach [e] X.env = [(false, eval e X.env)] := by rfl) :
    PI X (.Tuple elts kk tpos) (.Call (.Name "enumerate" p) [e] [] pos) (iEnumT X.K ta) := by
  refine ⟨fun pins s σ H R I h => ?_⟩
  refine Call_ (ld_blt I hg hm boot_enumerate (PyProof.Rows.callWith_type1 (thn (ha.run pos pins s σ H _ I h) fun us s1 ⟨vs, H1, I1, r1, q1⟩ => ?_) hs rfl))
  obtain ⟨a, xs, ex, hq, q⟩ := q1
  subst ex
  cases r1 with
  | cons r rr =>
    cases rr
    cases r
    obtain ⟨its, rv, p', hz⟩ := I1.tuple hq
    refine enum_callT p' fun h' he hit hk => wpAny_pyIter_enum he ?_
    refine ⟨s1.heap.objs.size + 1, [s1.heap.objs.size + 1, s1.heap.objs.size], _, _, H1, rfl, I1.kept (t' := s1.toks) hk, turn_E a (s1.heap.objs.size + 1) s1.heap.objs.size, ⟨⟨.none, he⟩, hit, Nat.succ_ne_self _⟩, fun b hb => ?_, q⟩
    have hle : s1.heap.objs.size ≤ b := by
      rcases List.mem_cons.mp hb with z | z
      · rw [z]; exact Nat.le_succ _
      · rw [List.mem_singleton.mp z]; exact Nat.le_refl _
    exact I1.fpOk hle (I1.hok.fresh hle)

/-! ### loops -/
section
variable {σ : L2.St} {H : Hp} {ta tc : TE} {K : PySem.W.Frag} {D : Ends} {tz tb : TS} {g : TG}
theorem for_zipM {a b : Addr} {xs ys : List V} (Pv : Nat → L2.St → Hp → Prop) (h0 : Pv 0 σ H) (hq : ∀ i σ H, Pv i σ H → SqT K H a xs ∧ SqT K H b ys)
    (hs : ∀ (i : Nat) (x y : V) (T : Addr) (σ : L2.St) (H : Hp), xs[i]? = some x → ys[i]? = some y → Pv i σ H → H T = none → g (.ref T) σ (upd H T (.tup [x, y])) fun σ2 H2 => tb { D with nx := Pv (i + 1), ct := Pv (i + 1), bk := D.nx } σ2 H2)
    (hd : ∀ σ H, Pv (min xs.length ys.length) σ H → D.nx σ H) :
    ∃ W : Nat → Nat → L2.St → Hp → Prop, (∃ m, W 0 m σ H) ∧ ∀ i m σ H, W i m σ H →
      ((RZ.ItzT K a b).stop i H ∧ D.nx σ H) ∨ ((RZ.ItzT K a b).go i H ∧ ∃ N : L2.St → Hp → Prop, (∀ σ' H', N σ' H' → ∃ m', m' < m ∧ W (i + 1) m' σ' H') ∧ ∀ v H', (RZ.ItzT K a b).yld i H v H' → g v σ H' fun σ2 H2 => tb { D with nx := N, ct := N, bk := D.nx } σ2 H2) := by
  refine ⟨fun i m σ H => m = min xs.length ys.length - i ∧ i ≤ min xs.length ys.length ∧ Pv i σ H, ⟨_, rfl, Nat.zero_le _, h0⟩, ?_⟩
  rintro i m σ H ⟨rfl, hi, p⟩
  obtain ⟨qx, qy⟩ := hq i σ H p
  by_cases hlt : i < min xs.length ys.length
  · have hx : xs[i]? = some xs[i] := List.getElem?_eq_getElem (by omega)
    have hy : ys[i]? = some ys[i] := List.getElem?_eq_getElem (by omega)
    refine .inr ⟨⟨xs, ys, _, _, qx, qy, hx, hy⟩, Pv (i + 1), fun σ' H' p' => ⟨_, by omega, rfl, hlt, p'⟩, fun v H' y => ?_⟩
    obtain ⟨T, x', y', rfl, hT, rfl, f1, f2⟩ := y
    exact hs i x' y' T σ H (f1 xs qx) (f2 ys qy) p hT
  · obtain rfl : i = min xs.length ys.length := by omega
    exact .inl ⟨⟨xs, ys, qx, qy, by omega⟩, hd σ H p⟩
/-- for x, y in zip(t, u), and what follows -/
theorem q_zip {a b : Addr} {xs ys : List V} (ha : Val ta σ H (.ref a)) (hb : Val tc σ H (.ref b)) (hx : SqT K H a xs) (hy : SqT K H b ys) (Pv : Nat → L2.St → Hp → Prop) (h0 : Pv 0 σ H) (hq : ∀ i σ H, Pv i σ H → SqT K H a xs ∧ SqT K H b ys)
    (hs : ∀ (i : Nat) (x y : V) (T : Addr) (σ : L2.St) (H : Hp), xs[i]? = some x → ys[i]? = some y → Pv i σ H → H T = none → g (.ref T) σ (upd H T (.tup [x, y])) fun σ2 H2 => tb { D with nx := Pv (i + 1), ct := Pv (i + 1), bk := tz D } σ2 H2)
    (hd : ∀ σ H, Pv (min xs.length ys.length) σ H → tz D σ H) : tSeq (tFor (RZ.iZipA K (tCons ta (tCons tc tNil))) g tb) tz D σ H :=
  ha _ (hb _ ⟨a, b, xs, ys, rfl, .inr ⟨hx, hy, for_zipM (D := { D with nx := tz D }) Pv h0 hq hs hd⟩⟩)
theorem for_E {a : Addr} {xs : List V} (Pv : Nat → L2.St → Hp → Prop) (h0 : Pv 0 σ H) (hq : ∀ i σ H, Pv i σ H → SqT K H a xs)
    (hs : ∀ (i : Nat) (x : V) (T : Addr) (σ : L2.St) (H : Hp), xs[i]? = some x → Pv i σ H → H T = none → g (.ref T) σ (upd H T (.tup [.int (i : Nat), x])) fun σ2 H2 => tb { D with nx := Pv (i + 1), ct := Pv (i + 1), bk := D.nx } σ2 H2)
    (hd : ∀ σ H, Pv xs.length σ H → D.nx σ H) :
    ∃ W : Nat → Nat → L2.St → Hp → Prop, (∃ m, W 0 m σ H) ∧ ∀ i m σ H, W i m σ H →
      ((ItE K a).stop i H ∧ D.nx σ H) ∨ ((ItE K a).go i H ∧ ∃ N : L2.St → Hp → Prop, (∀ σ' H', N σ' H' → ∃ m', m' < m ∧ W (i + 1) m' σ' H') ∧ ∀ v H', (ItE K a).yld i H v H' → g v σ H' fun σ2 H2 => tb { D with nx := N, ct := N, bk := D.nx } σ2 H2) := by
  refine ⟨fun i m σ H => m = xs.length - i ∧ i ≤ xs.length ∧ Pv i σ H, ⟨_, rfl, Nat.zero_le _, h0⟩, ?_⟩
  rintro i m σ H ⟨rfl, hi, p⟩
  have qx := hq i σ H p
  by_cases hlt : i < xs.length
  · have hx : xs[i]? = some xs[i] := List.getElem?_eq_getElem hlt
    refine .inr ⟨⟨xs, _, qx, hx⟩, Pv (i + 1), fun σ' H' p' => ⟨_, by omega, rfl, hlt, p'⟩, fun v H' y => ?_⟩
    obtain ⟨T, x', rfl, hT, rfl, f1⟩ := y
    exact hs i x' T σ H (f1 xs qx) p hT
  · obtain rfl : i = xs.length := by omega
    exact .inl ⟨⟨xs, qx, Nat.le_refl _⟩, hd σ H p⟩
/-- for i, x in enumerate(t) -/
theorem q_enumT {a : Addr} {xs : List V} (ha : Val ta σ H (.ref a)) (hx : SqT K H a xs) (Pv : Nat → L2.St → Hp → Prop) (h0 : Pv 0 σ H) (hq : ∀ i σ H, Pv i σ H → SqT K H a xs)
    (hs : ∀ (i : Nat) (x : V) (T : Addr) (σ : L2.St) (H : Hp), xs[i]? = some x → Pv i σ H → H T = none → g (.ref T) σ (upd H T (.tup [.int (i : Nat), x])) fun σ2 H2 => tb { D with nx := Pv (i + 1), ct := Pv (i + 1), bk := tz D } σ2 H2)
    (hd : ∀ σ H, Pv xs.length σ H → tz D σ H) : tSeq (tFor (iEnumT K (tCons ta tNil)) g tb) tz D σ H := ha _ ⟨a, xs, rfl, hx, for_E (D := { D with nx := tz D }) Pv h0 hq hs hd⟩
theorem s_enumT {a : Addr} {xs : List V} (ha : Val ta σ H (.ref a)) (hx : SqT K H a xs) (Pv : Nat → L2.St → Hp → Prop) (h0 : Pv 0 σ H) (hq : ∀ i σ H, Pv i σ H → SqT K H a xs)
    (hs : ∀ (i : Nat) (x : V) (T : Addr) (σ : L2.St) (H : Hp), xs[i]? = some x → Pv i σ H → H T = none → g (.ref T) σ (upd H T (.tup [.int (i : Nat), x])) fun σ2 H2 => tb { D with nx := Pv (i + 1), ct := Pv (i + 1), bk := D.nx } σ2 H2)
    (hd : ∀ σ H, Pv xs.length σ H → D.nx σ H) : tFor (iEnumT K (tCons ta tNil)) g tb D σ H := ha _ ⟨a, xs, rfl, hx, for_E Pv h0 hq hs hd⟩
/-- for x in a tuple, in a list -/
theorem q_tup {a : Addr} {xs : List V} (ha : Val ta σ H (.ref a)) (hx : SqT K H a xs) (Pv : Nat → L2.St → Hp → Prop) (h0 : Pv 0 σ H) (hq : ∀ i σ H, Pv i σ H → SqT K H a xs)
    (hs : ∀ (i : Nat) (x : V) (σ : L2.St) (H : Hp), xs[i]? = some x → Pv i σ H → g x σ H fun σ2 H2 => tb { D with nx := Pv (i + 1), ct := Pv (i + 1), bk := tz D } σ2 H2)
    (hd : ∀ σ H, Pv xs.length σ H → tz D σ H) : tSeq (tFor (iTup K ta) g tb) tz D σ H := ha _ ⟨a, rfl, ⟨xs, hx⟩, for_tup (D := { D with nx := tz D }) Pv h0 (fun i σ H _ => hq i σ H) hs hd⟩
theorem s_tup {a : Addr} {xs : List V} (ha : Val ta σ H (.ref a)) (hx : SqT K H a xs) (Pv : Nat → L2.St → Hp → Prop) (h0 : Pv 0 σ H) (hq : ∀ i σ H, Pv i σ H → SqT K H a xs)
    (hs : ∀ (i : Nat) (x : V) (σ : L2.St) (H : Hp), xs[i]? = some x → Pv i σ H → g x σ H fun σ2 H2 => tb { D with nx := Pv (i + 1), ct := Pv (i + 1), bk := D.nx } σ2 H2)
    (hd : ∀ σ H, Pv xs.length σ H → D.nx σ H) : tFor (iTup K ta) g tb D σ H := ha _ ⟨a, rfl, ⟨xs, hx⟩, for_tup Pv h0 (fun i σ H _ => hq i σ H) hs hd⟩
/-- arguments that are values -/
def ValA (t : TA) (σ : L2.St) (H : Hp) (vs : List V) : Prop := ∀ Q : List V → Hp → Prop, Q vs H → t σ H Q
theorem va_nil : ValA tNil σ H [] := fun _ q => q
theorem va_cons {te : TE} {t : TA} {x : V} {vs : List V} (h : Val te σ H x) (r : ValA t σ H vs) : ValA (tCons te t) σ H (x :: vs) := fun _ q => h _ (r _ q)
/-- a tuple, a list of values: new -/
theorem t_tup {t : TA} {vs : List V} {Q : VK} (h : ValA t σ H vs) (q : ∀ p, H p = none → Q (.ref p) (upd H p (.tup vs))) (hl : vs.length ≤ 100 := by simp) : tTup t σ H Q := h _ ⟨Nat.le_trans hl (by decide), q⟩
theorem t_lst {t : TA} {vs : List V} {Q : VK} (h : ValA t σ H vs) (q : ∀ p, H p = none → Q (.ref p) (upd H p (.lst vs))) (hl : vs.length ≤ 100 := by simp) : tLst t σ H Q := h _ ⟨Nat.le_trans hl (by decide), q⟩
theorem q_asgT {t : TA} {vs : List V} {i : Nat} (h : ValA t σ H vs) (q : ∀ p, H p = none → tz D (σ.set i (some (.ref p))) (upd H p (.tup vs))) (hl : vs.length ≤ 100 := by simp) : tSeq (tAsg (tTup t) (gName i)) tz D σ H := h _ ⟨Nat.le_trans hl (by decide), q⟩
theorem q_asgL {t : TA} {vs : List V} {i : Nat} (h : ValA t σ H vs) (q : ∀ p, H p = none → tz D (σ.set i (some (.ref p))) (upd H p (.lst vs))) (hl : vs.length ≤ 100 := by simp) : tSeq (tAsg (tLst t) (gName i)) tz D σ H := h _ ⟨Nat.le_trans hl (by decide), q⟩
theorem q_asg {te : TE} {i : Nat} (h : te σ H fun v H1 => tz D (σ.set i (some v)) H1) : tSeq (tAsg te (gName i)) tz D σ H := h
theorem s_asg {te : TE} {i : Nat} (h : te σ H fun v H1 => D.nx (σ.set i (some v)) H1) : tAsg te (gName i) D σ H := h
theorem s_retE {te : TE} (h : te σ H fun v H1 => D.rt v H1) : tRet te D σ H := h
/-- xs.append(e), and what follows -/
theorem q_append {l : Addr} {ys : List V} {to te : TE} (ho : Val to σ H (.ref l)) (hl : H l = some (.lst ys)) (h : te σ H fun v H1 => ∃ zs, H1 l = some (.lst zs) ∧ zs.length < sizeLine ∧ tz D σ (upd H1 l (.lst (zs ++ [v])))) :
    tSeq (tDrop (tBM K "list" rAppend to (tCons te tNil))) tz D σ H := ho _ ⟨.inl ⟨rfl, _, SqL.of hl⟩, by
  show te σ H fun x H1 => rAppend (.ref l) [x] H1 fun _ H2 => tz D σ H2
  exact cast (congrArg (te σ H) (funext fun v => funext fun H1 => propext ⟨fun ⟨zs, h1, h2, h3⟩ => ⟨l, zs, v, rfl, rfl, h1, h2, h3⟩, fun ⟨l', zs, y, e1, e2, h1, h2, h3⟩ => by cases e1; cases e2; exact ⟨zs, h1, h2, h3⟩⟩)) h⟩
theorem s_append {l : Addr} {ys : List V} {to te : TE} (ho : Val to σ H (.ref l)) (hl : H l = some (.lst ys)) (h : te σ H fun v H1 => ∃ zs, H1 l = some (.lst zs) ∧ zs.length < sizeLine ∧ D.nx σ (upd H1 l (.lst (zs ++ [v])))) :
    tDrop (tBM K "list" rAppend to (tCons te tNil)) D σ H := ho _ ⟨.inl ⟨rfl, _, SqL.of hl⟩, by
  show te σ H fun x H1 => rAppend (.ref l) [x] H1 fun _ H2 => D.nx σ H2
  exact cast (congrArg (te σ H) (funext fun v => funext fun H1 => propext ⟨fun ⟨zs, h1, h2, h3⟩ => ⟨l, zs, v, rfl, rfl, h1, h2, h3⟩, fun ⟨l', zs, y, e1, e2, h1, h2, h3⟩ => by cases e1; cases e2; exact ⟨zs, h1, h2, h3⟩⟩)) h⟩
/-- two names from a pair -/
theorem g_two {i j : Nat} {T : Addr} {x y : V} {Q : L2.St → Hp → Prop} (h : H T = some (.tup [x, y])) (q : Q ((σ.set i (some x)).set j (some y)) H) : gTup K 2 (gCons (gName i) (gCons (gName j) gNil)) (.ref T) σ H Q :=
  ⟨T, [x, y], rfl, SqT.of h, rfl, x, [y], rfl, y, [], rfl, rfl, q⟩
end
end PX
end

section
set_option Elab.async false
set_option maxRecDepth 100000
set_option maxHeartbeats 4000000
set_option linter.all false
/-! Calls, loops over lists, comprehensions: readings by what the parts evaluate to. -/
namespace PX
open PySem PySem.Spec PyProof.Rows L2 PR
section
variable {σ : L2.St} {H : Hp} {ta tb tc te tk : TE} {K : PySem.W.Frag} {x y z v : V} {D : Ends} {ts tu tz tb' : TS} {t : TA} {vs dvs : List V} {sp : Sp} {E : XK} {Q : VK} {g : TG}
theorem tcons_E {Q : List V → Hp → Prop} (h : te σ H fun v H1 => t σ H1 fun vs H2 => Q (v :: vs) H2) : tCons te t σ H Q := h
theorem t_tupE (h : t σ H fun vs H1 => vs.length ≤ sizeLine ∧ ∀ p, H1 p = none → Q (.ref p) (upd H1 p (.tup vs))) : tTup t σ H Q := h
theorem t_lstE (h : t σ H fun vs H1 => vs.length ≤ sizeLine ∧ ∀ p, H1 p = none → Q (.ref p) (upd H1 p (.lst vs))) : tLst t σ H Q := h
theorem e_val (h : Val te σ H v) (q : Q v H) : te σ H Q := h _ q
theorem e_call (ha : ValA t σ H vs) (h : sp (vs ++ dvs) H Q E) : tCall sp dvs E t σ H Q := ha _ h
theorem e_callE (h : t σ H fun vs H1 => sp (vs ++ dvs) H1 Q E) : tCall sp dvs E t σ H Q := h
theorem e_meth {C a dx : Addr} {m : Str} {fs : List (Str × V)} (ho : Val ta σ H (.ref a)) (hi : H a = some (.ins C dx fs)) (hl : fs.lookup m = none) (ha : ValA t σ H vs) (h : sp (.ref a :: (vs ++ dvs)) H Q E) : tMeth C m sp dvs E ta t σ H Q := ho _ ⟨a, dx, fs, rfl, hi, hl, ha _ h⟩
theorem e_methE {C a dx : Addr} {m : Str} {fs : List (Str × V)} (ho : Val ta σ H (.ref a)) (hi : H a = some (.ins C dx fs)) (hl : fs.lookup m = none) (h : t σ H fun vs H2 => sp (.ref a :: (vs ++ dvs)) H2 Q E) : tMeth C m sp dvs E ta t σ H Q := ho _ ⟨a, dx, fs, rfl, hi, hl, h⟩
theorem e_make {C : Addr} (ha : ValA t σ H vs) (h : ∀ x dx, H x = none → H dx = none → dx ≠ x → sp (.ref x :: (vs ++ dvs)) (upd (upd H dx (.own x)) x (.ins C dx [])) (fun v H2 => v = .non ∧ Q (.ref x) H2) E) : tMake C sp dvs E t σ H Q := ha _ h
theorem s_drop (h : te σ H fun _ H1 => D.nx σ H1) : tDrop te D σ H := h
theorem q_drop (h : te σ H fun _ H1 => tz D σ H1) : tSeq (tDrop te) tz D σ H := h
theorem a_testE {Q : Bool → Hp → Prop} (h : te σ H fun v H1 => ∃ k, v = .bl k ∧ Q k H1) : tTest te σ H Q := h
theorem q_whenE {c : TT} (h : c σ H fun b H1 => if b = true then ts { D with nx := tu D } σ H1 else tu D σ H1) : tSeq (tIfS c ts tNext) tu D σ H := h
theorem q_ifE {c : TT} (h : c σ H fun b H1 => if b = true then ts { D with nx := tz D } σ H1 else tu { D with nx := tz D } σ H1) : tSeq (tIfS c ts tu) tz D σ H := h
theorem s_ifE {c : TT} (h : c σ H fun b H1 => if b = true then ts D σ H1 else tu D σ H1) : tIfS c ts tu D σ H := h
theorem a_notE {t : TT} {Q : Bool → Hp → Prop} (h : t σ H fun b H1 => Q (!b) H1) : tNot t σ H Q := h
theorem a_bE {Q : Bool → Hp → Prop} (h : te σ H fun v H1 => ∃ k, v = .bl k ∧ Q k H1) : tB te σ H Q := h
theorem a_orE {t u : TT} {Q : Bool → Hp → Prop} (h : t σ H fun b H1 => if b = true then Q true H1 else u σ H1 Q) : tOr t u σ H Q := h
theorem a_andE {t u : TT} {Q : Bool → Hp → Prop} (h : t σ H fun b H1 => if b = true then u σ H1 Q else Q false H1) : tAnd t u σ H Q := h
theorem e_andE (h : ta σ H fun v H1 => ∃ k, v = .bl k ∧ if k = true then tb σ H1 Q else Q (.bl false) H1) : tAndV ta tb σ H Q := h
/-! ### all but lists stays -/
def Lx (H H' : Hp) : Prop := ∀ b u, (∀ ys, u ≠ .lst ys) → H b = some u → H' b = some u ∨ (Lkb u ∧ ∃ o, H' b = some (.frz o u))
theorem Le.lx {H H' : Hp} (e : Le H H') : Lx H H' := fun b u _ h => e b u h
theorem Lx.same {H H' : Hp} (e : Same H H') : Lx H H' := fun b u _ h => .inl (e b u h)
theorem Lx.but {H H' : Hp} {l : Addr} {ys : List V} (h : H l = some (.lst ys)) (f : ∀ b o, H b = some o → b ≠ l → H' b = some o) : Lx H H' := fun b u n q => .inl (f b u q fun e => by
  rw [e, h] at q
  exact n ys (Option.some.inj q).symm)
theorem Lx.upd {H : Hp} {l : Addr} {ys : List V} {o : HO} (h : H l = some (.lst ys)) : Lx H (L2.upd H l o) := .but h fun b o e n => by rw [upd_ne n]; exact e
theorem Lx.trans {H H1 H2 : Hp} (a : Lx H H1) (b : Lx H1 H2) : Lx H H2 := fun c u n h => by
  rcases a c u n h with h1 | ⟨l, o, h1⟩
  · exact b c u n h1
  · rcases b c _ (fun ys e => by cases e) h1 with h2 | ⟨l2, o2, h2⟩
    · exact .inr ⟨l, o, h2⟩
    · exact l2.elim
theorem Lx.tup {H H' : Hp} (e : Lx H H') {b : Addr} {xs : List V} (h : H b = some (.tup xs)) : H' b = some (.tup xs) := (e b _ (fun _ z => by cases z) h).elim id fun z => z.1.elim
theorem Lx.tp {H H' : Hp} (e : Lx H H') : Tp H H' := fun b xs h => e.tup h
theorem Lx.ins {H H' : Hp} (e : Lx H H') {b C dx : Addr} {fs : List (Str × V)} (h : H b = some (.ins C dx fs)) : H' b = some (.ins C dx fs) := (e b _ (fun _ z => by cases z) h).elim id fun z => z.1.elim
theorem Lx.rd {H H' : Hp} (e : Lx H H') {b : Addr} {u : HO} (n : ∀ ys, u ≠ .lst ys) (h : Rd H b u) : Rd H' b u := by
  rcases h with h | ⟨o, h⟩
  · rcases e b u n h with h | ⟨_, o, h⟩
    · exact .inl h
    · exact .inr ⟨o, h⟩
  · rcases e b _ (fun _ z => by cases z) h with h | ⟨l, _⟩
    · exact .inr ⟨o, h⟩
    · exact l.elim
structure MonoX {α : Type} (R : Rp α) : Prop where
  mono : ∀ {H H' : Hp} {a : α} {v : V}, Lx H H' → R H a v → R H' a v
theorem MonoT.mx {α : Type} {R : Rp α} (m : MonoT R) : MonoX R := ⟨fun e h => m.mono e.tp h⟩
theorem stepR_x {c : Cs} : MonoX (stepR c) := ⟨fun e ⟨a, dx, t, h1, h2, h3⟩ => ⟨a, dx, t, h1, e.ins h2, e.tup h3⟩⟩
theorem StepsAt.monoX {c : Cs} {M : Mach} {H H' : Hp} {t : Addr} (e : Lx H H') (h : StepsAt c M H t) : StepsAt c M H' t := let ⟨xs, h1, h2⟩ := h; ⟨xs, e.tup h1, Paired.mapP h2 fun _ _ z => stepR_x.mono e z⟩
theorem MarksAt.monoX {mk : Int → Bool} {H H' : Hp} {a : Addr} (e : Lx H H') (h : MarksAt mk H a) : MarksAt mk H' a := let ⟨kvs, h1, h2⟩ := h; ⟨kvs, e.rd (fun _ z => by cases z) h1, h2⟩
theorem machR_x {c : Cs} : MonoX (machR c) := ⟨fun e ⟨a, dx, t, h1, h2, h3⟩ => ⟨a, dx, t, h1, e.ins h2, h3.monoX e⟩⟩
theorem DX.mono {κ : Type} [DecidableEq κ] [DKey κ] {P : Program} {w : World} {H H' : Hp} {a : Addr} {kvs : List (κ × V)} (e : Lx H H') (d : DX P w H a kvs) : DX P w H' a kvs := let ⟨xs, h1, h2⟩ := d; ⟨xs, e.rd (fun _ z => by cases z) h1, h2.keeps fun b ys q => e.tup q⟩
theorem same_but {H H1 H2 : Hp} {l : Addr} (e : Same H H1) (hl : H l = none) (f : ∀ b o, H1 b = some o → b ≠ l → H2 b = some o) : Same H H2 := fun b u q => f b u (e b u q) fun z => by rw [z, hl] at q; cases q
/-- a field is set -/
theorem q_fldE {f : Str} (h : te σ H fun v H1 => ta σ H1 fun x H2 => ∃ a C dx fs, x = .ref a ∧ H2 a = some (.ins C dx fs) ∧ Cls K C ∧ NoAttr K C f ∧ fs.length < 1000 ∧ tz D σ (upd H2 a (.ins C dx (putF f v fs)))) : tSeq (sFld K ta te f) tz D σ H := h
/-! ### loops over a list -/
def LpL (K : PySem.W.Frag) (a : Addr) (g : TG) (tb : TS) (D : Ends) (σ : L2.St) (H : Hp) : Prop := ∃ W : Nat → Nat → L2.St → Hp → Prop, (∃ m, W 0 m σ H) ∧ ∀ i m σ H, W i m σ H →
      ((Itl K a).stop i H ∧ D.nx σ H) ∨ ((Itl K a).go i H ∧ ∃ N : L2.St → Hp → Prop, (∀ σ' H', N σ' H' → ∃ m', m' < m ∧ W (i + 1) m' σ' H') ∧ ∀ x H', (Itl K a).yld i H x H' → g x σ H' fun σ2 H2 => tb { D with nx := N, ct := N, bk := D.nx } σ2 H2)
theorem lpL {a : Addr} {xs : List V} (Pv : Nat → L2.St → Hp → Prop) (h0 : Pv 0 σ H) (hl : ∀ i σ H, Pv i σ H → SqL K H a xs)
    (hs : ∀ i x σ H, xs[i]? = some x → Pv i σ H → g x σ H fun σ2 H2 => tb' { D with nx := Pv (i + 1), ct := Pv (i + 1), bk := D.nx } σ2 H2) (hd : ∀ σ H, Pv xs.length σ H → D.nx σ H) : LpL K a g tb' D σ H := for_list Pv h0 (fun i σ H _ => hl i σ H) hs hd
theorem q_listE (h : te σ H fun x H1 => ∃ a, x = .ref a ∧ (∃ xs, SqL K H1 a xs) ∧ LpL K a g tb' { D with nx := tz D } σ H1) : tSeq (tFor (iList K te) g tb') tz D σ H := h
theorem s_listE (h : te σ H fun x H1 => ∃ a, x = .ref a ∧ (∃ xs, SqL K H1 a xs) ∧ LpL K a g tb' D σ H1) : tFor (iList K te) g tb' D σ H := h
theorem q_list {a : Addr} {xs : List V} (ha : Val te σ H (.ref a)) (hx : SqL K H a xs) (Pv : Nat → L2.St → Hp → Prop) (h0 : Pv 0 σ H) (hl : ∀ i σ H, Pv i σ H → SqL K H a xs)
    (hs : ∀ i x σ H, xs[i]? = some x → Pv i σ H → g x σ H fun σ2 H2 => tb' { D with nx := Pv (i + 1), ct := Pv (i + 1), bk := tz D } σ2 H2) (hd : ∀ σ H, Pv xs.length σ H → tz D σ H) : tSeq (tFor (iList K te) g tb') tz D σ H := ha _ ⟨a, rfl, ⟨xs, hx⟩, lpL (D := { D with nx := tz D }) Pv h0 hl hs hd⟩
theorem s_list {a : Addr} {xs : List V} (ha : Val te σ H (.ref a)) (hx : SqL K H a xs) (Pv : Nat → L2.St → Hp → Prop) (h0 : Pv 0 σ H) (hl : ∀ i σ H, Pv i σ H → SqL K H a xs)
    (hs : ∀ i x σ H, xs[i]? = some x → Pv i σ H → g x σ H fun σ2 H2 => tb' { D with nx := Pv (i + 1), ct := Pv (i + 1), bk := D.nx } σ2 H2) (hd : ∀ σ H, Pv xs.length σ H → D.nx σ H) : tFor (iList K te) g tb' D σ H := ha _ ⟨a, rfl, ⟨xs, hx⟩, lpL Pv h0 hl hs hd⟩
theorem SqL.sm {H H' : Hp} {a : Addr} {xs : List V} (e : H' a = some (.lst xs)) : SqL K H' a xs := SqL.of e
/-! ### comprehensions that map -/
theorem take_succ' {α : Type} {bs : List α} {i : Nat} {b : α} (h : bs[i]? = some b) : bs.take (i + 1) = bs.take i ++ [b] := by
  rw [List.take_succ, h]; rfl
theorem lc_inv {β : Type} {R : Rp β} (m : MonoT R) {H1 H' : Hp} {Dd : Addr} {bs : List β} {i : Nat} {b : β} {acc : List V} {y : V} (hD : H1 Dd = none) (s1 : Same H1 H') (ha : H' Dd = some (.lst acc)) (hr : All R H' (bs.take i) acc) (hb : bs[i]? = some b) (hy : R H' b y) :
    Same H1 (upd H' Dd (.lst (acc ++ [y]))) ∧ (∃ acc', (upd H' Dd (.lst (acc ++ [y]))) Dd = some (.lst acc') ∧ All R (upd H' Dd (.lst (acc ++ [y]))) (bs.take (i + 1)) acc') := by
  have tp : Tp H' (upd H' Dd (.lst (acc ++ [y]))) := .lst ha
  refine ⟨sm_own s1 hD, _, upd_same, ?_⟩
  rw [take_succ' hb]
  exact (hr.mono m tp).snoc (m.mono tp hy)
theorem e_lcT {β : Type} (R : Rp β) (m : MonoT R) {ns : List Nat} {a : Addr} {xs : List V} (bs : List β) (ha : Val ta σ H (.ref a)) (hx : H a = some (.tup xs)) (hlen : bs.length = xs.length) (hbig : xs.length ≤ 100000)
    (hs : ∀ (i : Nat) (x : V) (b : β) (H' : Hp) (Q : VK), xs[i]? = some x → bs[i]? = some b → Same H H' → (∀ y H4, Same H' H4 → R H4 b y → Q y H4) → g x (wipe σ ns) H' fun σ2 H2 => wipe σ2 ns = wipe σ ns ∧ te σ2 H2 Q)
    (q : ∀ Dd H' acc, Same H H' → H Dd = none → H' Dd = some (.lst acc) → All R H' bs acc → Q (.ref Dd) H') : tLc (iTup K ta) g tYes te ns σ H Q := by
  refine ha _ ⟨a, rfl, ⟨xs, SqT.of hx⟩, fun Dd hD => ?_⟩
  refine lc_tup (fun i H' => Same H H' ∧ ∃ acc, H' Dd = some (.lst acc) ∧ All R H' (bs.take i) acc) ⟨sm_up hD, [], upd_same, .nil⟩ (fun i H' _ p => SqT.of (p.1 _ _ hx)) (fun i x H' hxi p => ?_) (fun H' p => ?_)
  · obtain ⟨sm, acc, h1, h2⟩ := p
    obtain ⟨b, hb⟩ : ∃ b, bs[i]? = some b := ⟨_, List.getElem?_eq_getElem (by have := (List.getElem?_eq_some_iff.mp hxi).1; omega)⟩
    have hi : i < xs.length := (List.getElem?_eq_some_iff.mp hxi).1
    have hl : acc.length = i := by rw [← h2.len, List.length_take]; omega
    refine hs i x b H' _ hxi hb sm fun y H4 s4 hy => ?_
    refine ⟨acc, s4 _ _ h1, Nat.lt_of_lt_of_le (by omega : acc.length < 100000) (by decide), ?_⟩
    obtain ⟨t1, acc', t2, t3⟩ := lc_inv (H1 := H) (H' := H4) m hD (sm.trans s4) (s4 _ _ h1) (h2.mono m (.same s4)) hb hy
    exact ⟨t1, acc', t2, t3⟩
  · obtain ⟨sm, acc, h1, h2⟩ := p
    rw [← hlen, List.take_length] at h2
    exact q Dd H' acc sm hD h1 h2
theorem e_lcL {β : Type} (R : Rp β) (m : MonoT R) {ns : List Nat} {a : Addr} {xs : List V} (bs : List β) (ha : Val ta σ H (.ref a)) (hx : H a = some (.lst xs)) (hlen : bs.length = xs.length) (hbig : xs.length ≤ 100000)
    (hs : ∀ (i : Nat) (x : V) (b : β) (H' : Hp) (Q : VK), xs[i]? = some x → bs[i]? = some b → Same H H' → (∀ y H4, Same H' H4 → R H4 b y → Q y H4) → g x (wipe σ ns) H' fun σ2 H2 => wipe σ2 ns = wipe σ ns ∧ te σ2 H2 Q)
    (q : ∀ Dd H' acc, Same H H' → H Dd = none → H' Dd = some (.lst acc) → All R H' bs acc → Q (.ref Dd) H') : tLc (iList K ta) g tYes te ns σ H Q := by
  refine ha _ ⟨a, rfl, ⟨xs, SqL.of hx⟩, fun Dd hD => ?_⟩
  refine lc_list (fun i H' => Same H H' ∧ ∃ acc, H' Dd = some (.lst acc) ∧ All R H' (bs.take i) acc) ⟨sm_up hD, [], upd_same, .nil⟩ (fun i H' _ p => SqL.of (p.1 _ _ hx)) (fun i x H' hxi p => ?_) (fun H' p => ?_)
  · obtain ⟨sm, acc, h1, h2⟩ := p
    obtain ⟨b, hb⟩ : ∃ b, bs[i]? = some b := ⟨_, List.getElem?_eq_getElem (by have := (List.getElem?_eq_some_iff.mp hxi).1; omega)⟩
    have hi : i < xs.length := (List.getElem?_eq_some_iff.mp hxi).1
    have hl : acc.length = i := by rw [← h2.len, List.length_take]; omega
    refine hs i x b H' _ hxi hb sm fun y H4 s4 hy => ?_
    refine ⟨acc, s4 _ _ h1, Nat.lt_of_lt_of_le (by omega : acc.length < 100000) (by decide), ?_⟩
    obtain ⟨t1, acc', t2, t3⟩ := lc_inv (H1 := H) (H' := H4) m hD (sm.trans s4) (s4 _ _ h1) (h2.mono m (.same s4)) hb hy
    exact ⟨t1, acc', t2, t3⟩
  · obtain ⟨sm, acc, h1, h2⟩ := p
    rw [← hlen, List.take_length] at h2
    exact q Dd H' acc sm hD h1 h2

end
end PX
end

section
set_option Elab.async false
set_option maxRecDepth 100000
set_option maxHeartbeats 4000000
set_option linter.all false
/-! Dicts of lists by heads: setdefault and append. -/
namespace PX
open PySem PySem.Spec PyProof.Rows L2 PR
/-- what is neither a list nor a dict of tuples stays -/
def Lo (H H' : Hp) : Prop := ∀ b u, (∀ ys, u ≠ .lst ys) → (∀ φ, u ≠ .ext φ) → H b = some u → H' b = some u
def Fr (L : List Addr) (H H' : Hp) : Prop := ∀ b u, H b = some u → b ∉ L → H' b = some u
theorem Lo.same {H H' : Hp} (e : Same H H') : Lo H H' := fun b u _ _ h => e b u h
theorem Lo.refl (H : Hp) : Lo H H := .same (Same.refl H)
theorem Lo.trans {H H1 H2 : Hp} (a : Lo H H1) (b : Lo H1 H2) : Lo H H2 := fun c u n1 n2 h => b c u n1 n2 (a c u n1 n2 h)
theorem Lo.tup {H H' : Hp} (e : Lo H H') {b : Addr} {xs : List V} (h : H b = some (.tup xs)) : H' b = some (.tup xs) := e b _ (fun _ z => by cases z) (fun _ z => by cases z) h
theorem Lo.tp {H H' : Hp} (e : Lo H H') : Tp H H' := fun b xs h => e.tup h
theorem Lo.ins {H H' : Hp} (e : Lo H H') {b C dx : Addr} {fs : List (Str × V)} (h : H b = some (.ins C dx fs)) : H' b = some (.ins C dx fs) := e b _ (fun _ z => by cases z) (fun _ z => by cases z) h
theorem Lo.rdK {H H' : Hp} (e : Lo H H') {b : Addr} {kvs : List (Key × V)} (h : Rd H b (.dK kvs)) : Rd H' b (.dK kvs) := by
  rcases h with h | ⟨o, h⟩
  · exact .inl (e _ _ (fun _ z => by cases z) (fun _ z => by cases z) h)
  · exact .inr ⟨o, e _ _ (fun _ z => by cases z) (fun _ z => by cases z) h⟩
theorem Lo.lst {H : Hp} {l : Addr} {ys : List V} {o : HO} (h : H l = some (.lst ys)) : Lo H (upd H l o) := fun b u n1 _ e => by
  by_cases hb : b = l
  · rw [hb, h] at e; exact absurd (Option.some.inj e).symm (n1 ys)
  · rw [upd_ne hb]; exact e
theorem Lo.ext {H : Hp} {l : Addr} {φ : Heap → Prop} {o : HO} (h : H l = some (.ext φ)) : Lo H (upd H l o) := fun b u _ n2 e => by
  by_cases hb : b = l
  · rw [hb, h] at e; exact absurd (Option.some.inj e).symm (n2 φ)
  · rw [upd_ne hb]; exact e
theorem stepR_lo {c : Cs} {H H' : Hp} {p : Stp} {v : V} (e : Lo H H') : stepR c H p v → stepR c H' p v := fun ⟨a, dx, t, h1, h2, h3⟩ => ⟨a, dx, t, h1, e.ins h2, e.tup h3⟩
theorem StepsAt.lo {c : Cs} {M : Mach} {H H' : Hp} {t : Addr} (e : Lo H H') (h : StepsAt c M H t) : StepsAt c M H' t := let ⟨xs, h1, h2⟩ := h; ⟨xs, e.tup h1, Paired.mapP h2 fun _ _ z => stepR_lo e z⟩
theorem machR_lo {c : Cs} {H H' : Hp} {M : Mach} {v : V} (e : Lo H H') : machR c H M v → machR c H' M v := fun ⟨a, dx, t, h1, h2, h3⟩ => ⟨a, dx, t, h1, e.ins h2, h3.lo e⟩
theorem MarksAt.lo {mk : Int → Bool} {H H' : Hp} {a : Addr} (e : Lo H H') (h : MarksAt mk H a) : MarksAt mk H' a := let ⟨kvs, h1, h2⟩ := h; ⟨kvs, e.rdK h1, h2⟩
theorem Fr.same {L : List Addr} {H H' : Hp} (e : Same H H') : Fr L H H' := fun b u h _ => e b u h
theorem Fr.trans {L L' : List Addr} {H H1 H2 : Hp} (a : Fr L H H1) (b : Fr L' H1 H2) (hl : ∀ x ∈ L', x ∈ L ∨ H x = none) : Fr L H H2 := fun c u h n => b c u (a c u h n) fun z => (hl c z).elim n fun e => by rw [e] at h; cases h
theorem Fr.base {L : List Addr} {H0 H H' : Hp} (s : Same H0 H) (f : Fr L H H') (hl : ∀ b ∈ L, H0 b = none) : Same H0 H' := fun b u h => f b u (s b u h) fun z => by rw [hl b z] at h; cases h
section
variable {κ : Type} [DecidableEq κ] [DKey κ] {P : Program} {w : World}
theorem DXm.same {H H' : Hp} {a : Addr} {kvs : List (κ × V)} (e : Same H H') (d : DXm P w H a kvs) : DXm P w H' a kvs := let ⟨xs, h1, h2⟩ := d; ⟨xs, e _ _ h1, h2.keeps fun b ys q => e b _ q⟩
theorem DXm.fr {H H' : Hp} {a : Addr} {kvs : List (κ × V)} (h : H' a = H a) (e : Tp H H') (d : DXm P w H a kvs) : DXm P w H' a kvs := let ⟨xs, h1, h2⟩ := d; ⟨xs, h.trans h1, h2.keeps fun b ys q => e b _ q⟩
theorem DXm.put {H H' : Hp} {a : Addr} {kvs kvs0 : List (κ × V)} (d : DXput P w H a kvs H') (d0 : DXm P w H a kvs0) : DXm P w H' a kvs ∧ Fr [a] H H' ∧ Lo H H' := by
  obtain ⟨xs, rfl, h2⟩ := d
  obtain ⟨φ, e⟩ := d0.ext
  have lo : Lo H (upd H a (dxO P w a xs)) := .ext e
  exact ⟨⟨xs, upd_same, h2.keeps fun b ys q => lo.tup q⟩, fun b u h n => by rw [upd_ne (fun z => n (by rw [z]; exact List.mem_singleton.mpr rfl))]; exact h, lo⟩
end
variable {β : Type}
structure MM (R : Rp β) (P : Program) (w : World) (H : Hp) (d : Addr) (f : Hd → List β) (L : List Addr) (n : Nat) : Prop where
  dict : ∃ kvs : List (Hd × V), DXm P w H d kvs ∧ kvs.length ≤ n ∧ (∀ h, match valV kvs h with
    | none => f h = []
    | some v => ∃ l ys, v = .ref l ∧ l ∈ L ∧ H l = some (.lst ys) ∧ All R H (f h) ys) ∧ (∀ h h' l, valV kvs h = some (.ref l) → valV kvs h' = some (.ref l) → h = h')
  own : d ∈ L
  kind : ∀ b ∈ L, (∃ φ, H b = some (.ext φ)) ∨ ∃ ys, H b = some (.lst ys)
/-- to be read -/
def MMr (R : Rp β) (P : Program) (w : World) (H : Hp) (d : Addr) (f : Hd → List β) : Prop := ∃ kvs : List (Hd × V), DX P w H d kvs ∧ ∀ h, match valV kvs h with
    | none => f h = []
    | some v => ∃ l ys, v = .ref l ∧ H l = some (.lst ys) ∧ All R H (f h) ys
section
variable {P : Program} {w : World} {R : Rp β} {H H' : Hp} {d : Addr} {f : Hd → List β} {L : List Addr} {n : Nat} {h : Hd}
theorem MM.r (m : MM R P w H d f L n) : MMr R P w H d f := by
  obtain ⟨kvs, h1, _, h3, _⟩ := m.dict
  refine ⟨kvs, h1.rd, fun h => ?_⟩
  have := h3 h
  cases e : valV kvs h with
  | none => rw [e] at this; exact this
  | some v =>
    rw [e] at this
    obtain ⟨l, ys, a, b, c, e⟩ := this
    exact ⟨l, ys, a, c, e⟩
theorem MMr.mono (mR : MonoT R) (e : Le H H') (m : MMr R P w H d f) : MMr R P w H' d f := by
  obtain ⟨kvs, h1, h3⟩ := m
  refine ⟨kvs, h1.mono e.lx, fun h => ?_⟩
  have := h3 h
  cases ev : valV kvs h with
  | none => rw [ev] at this; exact this
  | some v =>
    rw [ev] at this
    obtain ⟨l, ys, a, b, c⟩ := this
    exact ⟨l, ys, a, e.lst b, c.mono mR e.tp⟩
theorem MM.new (m : DXm P w H d ([] : List (Hd × V))) : MM R P w H d (fun _ => []) [d] 0 where
  dict := ⟨[], m, Nat.le_refl _, fun h => rfl, fun h h' l e => by cases e⟩
  own := List.mem_singleton.mpr rfl
  kind := fun b hb => by rw [List.mem_singleton.mp hb]; exact .inl m.ext
theorem MM.frame (mR : MonoT R) (hl : ∀ b ∈ L, H' b = H b) (e : Tp H H') (m : MM R P w H d f L n) : MM R P w H' d f L n where
  dict := by
    obtain ⟨kvs, h1, h2, h3, h4⟩ := m.dict
    refine ⟨kvs, h1.fr (hl d m.own) e, h2, fun h => ?_, h4⟩
    have := h3 h
    cases ev : valV kvs h with
    | none => rw [ev] at this; exact this
    | some v =>
      rw [ev] at this
      obtain ⟨l, ys, a, b, c, r⟩ := this
      exact ⟨l, ys, a, b, (hl l b).trans c, r.mono mR e⟩
  own := m.own
  kind := fun b hb => by rw [hl b hb]; exact m.kind b hb
theorem MM.same (mR : MonoT R) (e : Same H H') (m : MM R P w H d f L n) : MM R P w H' d f L n := m.frame mR (fun b hb => by
  rcases m.kind b hb with ⟨φ, q⟩ | ⟨ys, q⟩ <;> rw [q, e _ _ q]) (.same e)
theorem Lo.fr (m : MM R P w H d f L n) (e : Fr L H H') : Lo H H' := fun b u n1 n2 h => e b u h fun z => by
  rcases m.kind b z with ⟨φ, q⟩ | ⟨ys, q⟩
  · rw [q] at h; exact n2 φ (Option.some.inj h).symm
  · rw [q] at h; exact n1 ys (Option.some.inj h).symm
/-- makes a new tuple -/
def New1 (ty : TE) (σ : L2.St) (H : Hp) (xs : List V) : Prop := ∀ Q : VK, (∀ b H1, Same H H1 → H1 b = some (.tup xs) → Q (.ref b) H1) → ty σ H Q
theorem new1_tup {t : TA} {σ : L2.St} {xs : List V} (h : ValA t σ H xs) (hl : xs.length ≤ 100 := by exact Nat.le_of_ble_eq_true rfl) : New1 (tTup t) σ H xs := fun Q q => h _ ⟨Nat.le_trans hl (by decide), fun p hp => q p _ (sm_up hp) upd_same⟩
theorem new1_val {te : TE} {σ : L2.St} {b : Addr} {xs : List V} (h : Val te σ H (.ref b)) (e : H b = some (.tup xs)) : New1 te σ H xs := fun Q q => h _ (q b H (Same.refl H) e)
/-- d.setdefault(key, []).append(item) -/
theorem mmAdd {σ : L2.St} {K : PySem.W.Frag} {td ty te : TE} {D : Ends} {b0 : β} (mR : MonoT R) (hm : MM R P w H d f L n) (hd : Val td σ H (.ref d)) (hy : New1 ty σ H (DKey.vs h)) (hn : n < 100000) (hf : (f h).length < 100000)
    (he : ∀ H2 Q, Lo H H2 → Fr L H H2 → (∀ y H3, Same H2 H3 → R H3 b0 y → Q y H3) → te σ H2 Q)
    (q : ∀ H', Lo H H' → Fr L H H' → (∃ L', MM R P w H' d (fun k => if k = h then f k ++ [b0] else f k) L' (n + 1) ∧ ∀ b ∈ L', b ∈ L ∨ H b = none) → D.nx σ H') :
    tDrop (tBM K "list" rAppend (tXSetd Hd P w td ty (tLst tNil)) (tCons te tNil)) D σ H := by
  obtain ⟨kvs, h1, h2, h3, h4⟩ := hm.dict
  have bign : ∀ {k : Nat}, k < 100000 → k < sizeLine := fun z => Nat.lt_of_lt_of_le z (by decide)
  refine hd _ ⟨d, rfl, ⟨kvs, h1.rd⟩, hy _ fun b H1 s1 hb => ⟨Nat.zero_le _, fun p hp => ?_⟩⟩
  have s2 : Same H (upd H1 p (.lst [])) := sm_new s1 hp
  have hb2 : (upd H1 p (.lst [])) b = some (.tup (DKey.vs h)) := sm_up hp _ _ hb
  have hp2 : (upd H1 p (.lst [])) p = some (.lst []) := upd_same
  have hp0 : H p = none := s1.free hp
  generalize upd H1 p (.lst []) = H2 at s2 hb2 hp2
  have hv0 := h3 h
  refine ⟨b, kvs, h, rfl, h1.same s2, hb2, bign (Nat.lt_of_le_of_lt h2 hn), fun v hv => ?_, fun hv H4 h4' => ?_⟩
  · rw [hv] at hv0
    obtain ⟨l, ys, rfl, hl, hll, hr⟩ := hv0
    have hll2 := s2 _ _ hll
    refine ⟨.inl ⟨rfl, _, SqL.of hll2⟩, he H2 _ (.same s2) (.same s2) fun y H3 s3 ry => ⟨l, ys, y, rfl, rfl, s3 _ _ hll2, bign (by rw [← hr.len]; exact hf), ?_⟩⟩
    have s23 := s2.trans s3
    have tp : Tp H3 (upd H3 l (.lst (ys ++ [y]))) := .lst (s3 _ _ hll2)
    have fr : Fr L H (upd H3 l (.lst (ys ++ [y]))) := fun c u e nc => by rw [upd_ne (fun z => nc (by rw [z]; exact hl))]; exact s23 _ _ e
    refine q _ (.fr hm fr) fr ⟨L, ⟨⟨kvs, ?_, Nat.le_succ_of_le h2, fun k => ?_, h4⟩, hm.own, fun c hc => ?_⟩, fun c hc => .inl hc⟩
    · refine (h1.same s23).fr ?_ tp
      obtain ⟨φ, e⟩ := (h1.same s23).ext
      exact upd_ne fun z => by rw [z, s3 _ _ hll2] at e; cases e
    · have hk := h3 k
      cases e : valV kvs k with
      | none =>
        rw [e] at hk
        simp only
        rw [if_neg (fun z => by rw [z, hv] at e; cases e)]
        exact hk
      | some v =>
        rw [e] at hk
        obtain ⟨l', ys', rfl, hl', hll', hr'⟩ := hk
        by_cases hkh : k = h
        · subst hkh
          rw [hv] at e
          cases e
          rw [hll] at hll'
          cases hll'
          refine ⟨l, ys ++ [y], rfl, hl, upd_same, ?_⟩
          rw [if_pos rfl]
          exact (hr.mono mR ((Tp.same s23).trans tp)).snoc (mR.mono tp ry)
        · have nl : l' ≠ l := fun z => hkh (h4 k h l (by rw [e, z]) hv)
          refine ⟨l', ys', rfl, hl', by rw [upd_ne nl]; exact s23 _ _ hll', ?_⟩
          rw [if_neg hkh]
          exact hr'.mono mR ((Tp.same s23).trans tp)
    · by_cases hcl : c = l
      · rw [hcl]; exact .inr ⟨_, upd_same⟩
      · rw [upd_ne hcl]
        rcases hm.kind c hc with ⟨φ, e⟩ | ⟨zs, e⟩
        · exact .inl ⟨φ, s23 _ _ e⟩
        · exact .inr ⟨zs, s23 _ _ e⟩
  · rw [hv] at hv0
    obtain ⟨dm4, fr4, lo4⟩ := DXm.put h4' (h1.same s2)
    have npd : p ≠ d := fun z => by
      obtain ⟨φ, e⟩ := h1.ext
      rw [← z, hp0] at e; cases e
    have hp4 : H4 p = some (.lst []) := fr4 _ _ hp2 fun z => npd (List.mem_singleton.mp z)
    have lo04 : Lo H H4 := (Lo.same s2).trans lo4
    have fr04 : Fr L H H4 := fun c u e nc => fr4 _ _ (s2 _ _ e) fun z => nc (by rw [List.mem_singleton.mp z]; exact hm.own)
    refine ⟨.inl ⟨rfl, _, SqL.of hp4⟩, he H4 _ lo04 fr04 fun y H3 s3 ry => ⟨p, [], y, rfl, rfl, s3 _ _ hp4, Nat.zero_lt_of_lt (bign hn), ?_⟩⟩
    have hp3 := s3 _ _ hp4
    have tp : Tp H3 (upd H3 p (.lst ([] ++ [y]))) := .lst hp3
    have tp0 : Tp H (upd H3 p (.lst ([] ++ [y]))) := (lo04.tp.trans (.same s3)).trans tp
    have pnL : p ∉ L := fun z => by rcases hm.kind p z with ⟨φ, e⟩ | ⟨zs, e⟩ <;> (rw [hp0] at e; cases e)
    have fr : Fr L H (upd H3 p (.lst ([] ++ [y]))) := fun c u e nc => by rw [upd_ne (fun z => by rw [z, hp0] at e; cases e)]; exact s3 _ _ (fr04 _ _ e nc)
    have old : ∀ c l zs, l ∈ L → c = l → H l = some (.lst zs) → (upd H3 p (.lst ([] ++ [y]))) l = some (.lst zs) := fun c l zs hl _ e => by
      rw [upd_ne (fun z => pnL (by rw [← z]; exact hl))]
      refine s3 _ _ (fr4 _ _ (s2 _ _ e) fun z => ?_)
      obtain ⟨φ, e'⟩ := h1.ext
      rw [← List.mem_singleton.mp z, e] at e'
      cases e'
    refine q _ (.fr hm fr) fr ⟨p :: L, ⟨⟨putK kvs h (.ref p), ?_, Nat.le_trans (length_putK _ _ _) (Nat.succ_le_succ h2), fun k => ?_, fun k k' l e e' => ?_⟩, List.mem_cons_of_mem _ hm.own, fun c hc => ?_⟩, fun c hc => ?_⟩
    · refine (dm4.same s3).fr ?_ tp
      exact upd_ne npd.symm
    · rw [valV_put]
      by_cases hkh : k = h
      · subst hkh
        rw [if_pos rfl, if_pos rfl, hv0]
        exact ⟨p, [] ++ [y], rfl, List.mem_cons_self, upd_same, .cons (mR.mono tp ry) .nil⟩
      · rw [if_neg hkh, if_neg hkh]
        have hk := h3 k
        cases e : valV kvs k with
        | none => rw [e] at hk; exact hk
        | some v =>
          rw [e] at hk
          obtain ⟨l', ys', rfl, hl', hll', hr'⟩ := hk
          exact ⟨l', ys', rfl, List.mem_cons_of_mem _ hl', old l' l' ys' hl' rfl hll', hr'.mono mR tp0⟩
    · rw [valV_put] at e e'
      have inL : ∀ k l, valV kvs k = some (.ref l) → l ∈ L := fun k l e => by
        have hk := h3 k
        rw [e] at hk
        obtain ⟨l', ys', e1, e2, _⟩ := hk
        cases e1
        exact e2
      by_cases h1' : k = h
      · by_cases h2' : k' = h
        · rw [h1', h2']
        · rw [if_pos h1'] at e
          rw [if_neg h2'] at e'
          cases e
          exact absurd (inL _ _ e') pnL
      · rw [if_neg h1'] at e
        by_cases h2' : k' = h
        · rw [if_pos h2'] at e'
          cases e'
          exact absurd (inL _ _ e) pnL
        · rw [if_neg h2'] at e'
          exact h4 _ _ _ e e'
    · rcases List.mem_cons.mp hc with rfl | hc
      · exact .inr ⟨_, upd_same⟩
      · rcases hm.kind c hc with ⟨φ, e⟩ | ⟨zs, e⟩
        · by_cases hcd : c = d
          · subst hcd
            obtain ⟨ψ, e2⟩ := (dm4.same s3).ext
            exact .inl ⟨ψ, by rw [upd_ne npd.symm]; exact e2⟩
          · refine .inl ⟨φ, ?_⟩
            rw [upd_ne (fun z => pnL (by rw [← z]; exact hc))]
            exact s3 _ _ (fr4 _ _ (s2 _ _ e) fun z => hcd (List.mem_singleton.mp z))
        · exact .inr ⟨zs, old c c zs hc rfl e⟩
    · rcases List.mem_cons.mp hc with rfl | hc
      · exact .inr hp0
      · exact .inl hc
end
end PX
end

section
set_option Elab.async false
set_option maxRecDepth 100000
set_option maxHeartbeats 4000000
set_option linter.all false
/-! Readings of dicts with tuple keys. -/
namespace PX
open PySem PySem.Spec PyProof.Rows L2 PR
section
variable {κ : Type} [DecidableEq κ] [DKey κ] {P : Program} {w : World} {σ : L2.St} {H : Hp} {td ty tv tx te : TE} {tz ts : TS} {D : Ends} {a : Addr} {kvs : List (κ × V)} {k : κ} {v : V} {Q : VK} {K : PySem.W.Frag}
theorem big6 {n : Nat} (h : n < 100000) : n < sizeLine := Nat.lt_of_lt_of_le h (by decide)
theorem q_xput (hv : Val tv σ H v) (hd : Val td σ H (.ref a)) (hy : New1 ty σ H (DKey.vs k)) (d : DXm P w H a kvs) (hl : kvs.length < 100000) (q : ∀ H1 H4, Same H H1 → DXput P w H1 a (putK kvs k v) H4 → tz D σ H4) : tSeq (sXPut κ P w td ty tv) tz D σ H :=
  hv _ (hd _ (hy _ fun b H1 s1 hb => ⟨a, b, kvs, k, rfl, rfl, d.same s1, hb, big6 hl, fun H4 h4 => q H1 H4 s1 h4⟩))
theorem s_xput (hv : Val tv σ H v) (hd : Val td σ H (.ref a)) (hy : New1 ty σ H (DKey.vs k)) (d : DXm P w H a kvs) (hl : kvs.length < 100000) (q : ∀ H1 H4, Same H H1 → DXput P w H1 a (putK kvs k v) H4 → D.nx σ H4) : sXPut κ P w td ty tv D σ H :=
  hv _ (hd _ (hy _ fun b H1 s1 hb => ⟨a, b, kvs, k, rfl, rfl, d.same s1, hb, big6 hl, fun H4 h4 => q H1 H4 s1 h4⟩))
theorem e_xnin (hy : New1 ty σ H (DKey.vs k)) (hd : ∀ H1, Same H H1 → Val td σ H1 (.ref a)) (d : DX P w H a kvs) (q : ∀ H1, Same H H1 → Q (.bl (!(valV kvs k).isSome)) H1) : tXNin κ P w ty td σ H Q :=
  hy _ fun b H1 s1 hb => hd H1 s1 _ ⟨a, b, kvs, k, rfl, rfl, d.mono (.same s1), hb, q H1 s1⟩
theorem e_xin (hy : New1 ty σ H (DKey.vs k)) (hd : ∀ H1, Same H H1 → Val td σ H1 (.ref a)) (d : DX P w H a kvs) (q : ∀ H1, Same H H1 → Q (.bl (valV kvs k).isSome) H1) : tXIn κ P w ty td σ H Q :=
  hy _ fun b H1 s1 hb => hd H1 s1 _ ⟨a, b, kvs, k, rfl, rfl, d.mono (.same s1), hb, q H1 s1⟩
theorem e_xget (hd : Val td σ H (.ref a)) (hy : New1 ty σ H (DKey.vs k)) (d : DX P w H a kvs) (l : valV kvs k = some v) (q : ∀ H1, Same H H1 → Q v H1) : tXGet κ P w td ty σ H Q :=
  hd _ (hy _ fun b H1 s1 hb => ⟨a, b, kvs, k, v, rfl, rfl, d.mono (.same s1), hb, l, q H1 s1⟩)
/-- a new empty dict -/
theorem e_xnew (q : ∀ p H1, H p = none → H1 = upd H p (dxO P w p []) → DXm P w H1 p ([] : List (κ × V)) → Q (.ref p) H1) : tXNew κ P w σ H Q := fun p hp H1 e d => q p H1 hp e d
theorem DX.get {e : κ} (d : DX P w H a kvs) : True := trivial
end
section
variable {β : Type} {P : Program} {w : World} {R : Rp β} {σ : L2.St} {H : Hp} {d : Addr} {f : Hd → List β} {h : Hd} {td ty : TE} {Q : VK}
theorem e_mmGetL (mR : MonoT R) (m : MMr R P w H d f) (hd : Val td σ H (.ref d)) (hy : New1 ty σ H (DKey.vs h)) (q : ∀ l ys H1, Same H H1 → H1 l = some (.lst ys) → All R H1 (f h) ys → Q (.ref l) H1) : tXGet2 Hd P w td ty (tLst tNil) σ H Q := by
  obtain ⟨kvs, h1, h3⟩ := m
  refine hd _ ⟨d, rfl, ⟨kvs, h1⟩, hy _ fun b H1 s1 hb => ⟨Nat.zero_le _, fun p hp => ?_⟩⟩
  have s2 : Same H (upd H1 p (.lst [])) := sm_new s1 hp
  refine ⟨b, kvs, h, rfl, h1.mono (.same s2), sm_up hp _ _ hb, ?_⟩
  have hk := h3 h
  cases e : valV kvs h with
  | none =>
    rw [e] at hk
    refine q p [] _ s2 upd_same ?_
    rw [show f h = [] from hk]
    exact .nil
  | some v =>
    rw [e] at hk
    obtain ⟨l, ys, rfl, hl, hr⟩ := hk
    exact q l ys _ s2 (s2 _ _ hl) (hr.mono mR (.same s2))
theorem e_mmGetT (mR : MonoT R) (m : MMr R P w H d f) (hd : Val td σ H (.ref d)) (hy : New1 ty σ H (DKey.vs h)) (q : ∀ l ys H1, Same H H1 → (H1 l = some (.lst ys) ∨ H1 l = some (.tup ys)) → All R H1 (f h) ys → Q (.ref l) H1) : tXGet2 Hd P w td ty (tTup tNil) σ H Q := by
  obtain ⟨kvs, h1, h3⟩ := m
  refine hd _ ⟨d, rfl, ⟨kvs, h1⟩, hy _ fun b H1 s1 hb => ⟨Nat.zero_le _, fun p hp => ?_⟩⟩
  have s2 : Same H (upd H1 p (.tup [])) := sm_new s1 hp
  refine ⟨b, kvs, h, rfl, h1.mono (.same s2), sm_up hp _ _ hb, ?_⟩
  have hk := h3 h
  cases e : valV kvs h with
  | none =>
    rw [e] at hk
    refine q p [] _ s2 (.inr upd_same) ?_
    rw [show f h = [] from hk]
    exact .nil
  | some v =>
    rw [e] at hk
    obtain ⟨l, ys, rfl, hl, hr⟩ := hk
    exact q l ys _ s2 (.inl (s2 _ _ hl)) (hr.mono mR (.same s2))
end
section
variable {σ : L2.St} {H : Hp} {K : PySem.W.Frag} {Q : L2.St → Hp → Prop} {i j k l m : Nat} {T : Addr} {x y z u v : V}
theorem g_three (h : H T = some (.tup [x, y, z])) (q : Q (((σ.set i (some x)).set j (some y)).set k (some z)) H) : gTup K 3 (gCons (gName i) (gCons (gName j) (gCons (gName k) gNil))) (.ref T) σ H Q :=
  ⟨T, [x, y, z], rfl, SqT.of h, rfl, x, [y, z], rfl, y, [z], rfl, z, [], rfl, rfl, q⟩
theorem g_four (h : H T = some (.tup [x, y, z, u])) (q : Q ((((σ.set i (some x)).set j (some y)).set k (some z)).set l (some u)) H) : gTup K 4 (gCons (gName i) (gCons (gName j) (gCons (gName k) (gCons (gName l) gNil)))) (.ref T) σ H Q :=
  ⟨T, [x, y, z, u], rfl, SqT.of h, rfl, x, [y, z, u], rfl, y, [z, u], rfl, z, [u], rfl, u, [], rfl, rfl, q⟩
theorem g_five (h : H T = some (.tup [x, y, z, u, v])) (q : Q (((((σ.set i (some x)).set j (some y)).set k (some z)).set l (some u)).set m (some v)) H) : gTup K 5 (gCons (gName i) (gCons (gName j) (gCons (gName k) (gCons (gName l) (gCons (gName m) gNil))))) (.ref T) σ H Q :=
  ⟨T, [x, y, z, u, v], rfl, SqT.of h, rfl, x, [y, z, u, v], rfl, y, [z, u, v], rfl, z, [u, v], rfl, u, [v], rfl, v, [], rfl, rfl, q⟩
end
section
variable {σ σ2 : L2.St} {H H4 : Hp} {K : PySem.W.Frag} {ta te te1 : TE} {g g1 : TG} {ns vs1 : List Nat} {Q : VK} {Nx : Hp → Prop}
/-- the second clause's loop, over a list -/
theorem lc2_in {a1 D : Addr} {ys : List V} (Pv : Nat → Hp → Prop) (h0 : Pv 0 H4) (hl : ∀ i H, Pv i H → SqL K H a1 ys)
    (hs : ∀ i x H, ys[i]? = some x → Pv i H → g1 x (wipe σ2 vs1) H fun σ3 H5 => wipe σ3 vs1 = wipe σ2 vs1 ∧ te σ3 H5 fun y H7 => ∃ acc, H7 D = some (.lst acc) ∧ acc.length < sizeLine ∧ Pv (i + 1) (upd H7 D (.lst (acc ++ [y])))) (hd : ∀ H, Pv ys.length H → Nx H) :
    ∃ W1 : Nat → Nat → Hp → Prop, (∃ m, W1 0 m H4) ∧ ∀ j k H, W1 j k H →
      ((Itl K a1).stop j H ∧ Nx H) ∨ ((Itl K a1).go j H ∧ ∃ Nx1 : Hp → Prop, (∀ H', Nx1 H' → ∃ k', k' < k ∧ W1 (j + 1) k' H') ∧ ∀ x H', (Itl K a1).yld j H x H' → g1 x (wipe σ2 vs1) H' fun σ3 H5 => wipe σ3 vs1 = wipe σ2 vs1 ∧ tYes σ3 H5 fun b H6 =>
        if b = true then te σ3 H6 fun y H7 => ∃ acc, H7 D = some (.lst acc) ∧ acc.length < sizeLine ∧ Nx1 (upd H7 D (.lst (acc ++ [y]))) else Nx1 H6) := by
  refine ⟨fun i m H => m = ys.length - i ∧ i ≤ ys.length ∧ Pv i H, ⟨ys.length, by simp, Nat.zero_le _, h0⟩, ?_⟩
  rintro i m H ⟨rfl, hi, p⟩
  have q := hl i H p
  by_cases hlt : i < ys.length
  · refine .inr ⟨⟨ys, ys[i], q, by simp [hlt]⟩, Pv (i + 1), fun H' p' => ⟨ys.length - (i + 1), by omega, rfl, hlt, p'⟩, fun x H' y => ?_⟩
    obtain ⟨e, y⟩ := y
    subst e
    exact hs i x _ (y ys q) p
  · have e : i = ys.length := by omega
    subst e
    exact .inl ⟨⟨ys, q, Nat.le_refl _⟩, hd H p⟩
/-- [e for x in xs for y in f(x)]: each x stands for some b, and gives the list F b -/
theorem e_lc2 {β γ : Type} (R : Rp γ) (m : MonoT R) {a : Addr} {xs : List V} (bs : List β) (F : β → List γ) (ha : Val ta σ H (.ref a)) (hx : H a = some (.lst xs)) (hlen : bs.length = xs.length) (hbig : (bs.flatMap F).length ≤ 100000)
    (hs : ∀ (i : Nat) (x : V) (b : β) (H' : Hp) (C : L2.St → Hp → Prop), xs[i]? = some x → bs[i]? = some b → Same H H' → (∀ σ2, wipe σ2 ns = wipe σ ns →
      (∀ Q : VK, (∀ p ys H2, Same H' H2 → H' p = none → H2 p = some (.lst ys) → ys.length = (F b).length → (∀ (j : Nat) (y : V) (e : γ) (H3 : Hp) (Q : VK), ys[j]? = some y → (F b)[j]? = some e → Same H H3 → Tp H2 H3 → (∀ v H4, Same H3 H4 → R H4 e v → Q v H4) → g1 y (wipe σ2 vs1) H3 fun σ3 H5 => wipe σ3 vs1 = wipe σ2 vs1 ∧ te σ3 H5 Q) → Q (.ref p) H2) → te1 σ2 H' Q) → C σ2 H') → g x (wipe σ ns) H' C)
    (q : ∀ Dd H' acc, Same H H' → H Dd = none → H' Dd = some (.lst acc) → All R H' (bs.flatMap F) acc → Q (.ref Dd) H') : tLc2 (iList K ta) g tYes (iList K te1) g1 tYes te ns vs1 σ H Q := by
  refine ha _ ⟨a, rfl, ⟨xs, SqL.of hx⟩, fun Dd hD => ?_⟩
  refine ⟨fun i m H' => m = xs.length - i ∧ i ≤ xs.length ∧ Same H H' ∧ ∃ acc, H' Dd = some (.lst acc) ∧ All R H' ((bs.take i).flatMap F) acc, ⟨_, rfl, Nat.zero_le _, sm_up hD, [], upd_same, .nil⟩, ?_⟩
  rintro i _ H' ⟨rfl, hi, sm, acc, h1, h2⟩
  have hxa : SqL K H' a xs := SqL.of (sm _ _ hx)
  by_cases hlt : i < xs.length
  · obtain ⟨b, hb⟩ : ∃ b, bs[i]? = some b := ⟨_, List.getElem?_eq_getElem (by omega)⟩
    refine .inr ⟨⟨xs, xs[i], hxa, by simp [hlt]⟩, fun H' => Same H H' ∧ ∃ acc, H' Dd = some (.lst acc) ∧ All R H' ((bs.take (i + 1)).flatMap F) acc, fun H' p' => ⟨xs.length - (i + 1), by omega, rfl, hlt, p'⟩, fun x H'' y => ?_⟩
    obtain ⟨e, y⟩ := y
    subst e
    refine hs i x b _ _ (y xs hxa) hb sm fun σ2 hw inner => ⟨hw, ?_⟩
    show te1 σ2 _ _
    refine inner _ fun p ys H2 s2 hp hp2 hyl hel => ⟨p, rfl, ⟨ys, SqL.of hp2⟩, ?_⟩
    have npD : p ≠ Dd := fun z => by rw [z, h1] at hp; cases hp
    refine lc2_in (ys := ys) (fun j H3 => Same H H3 ∧ Tp H2 H3 ∧ H3 p = some (.lst ys) ∧ ∃ acc, H3 Dd = some (.lst acc) ∧ All R H3 ((bs.take i).flatMap F ++ (F b).take j) acc) ⟨sm.trans s2, Tp.refl _, hp2, acc, s2 _ _ h1, by simpa using h2.mono m (.same s2)⟩ (fun j H3 q => SqL.of q.2.2.1) (fun j y H3 hy q => ?_) (fun H3 q => ?_)
    · obtain ⟨s3, t3, hp3, acc3, d3, r3⟩ := q
      have hj := (List.getElem?_eq_some_iff.mp hy).1
      obtain ⟨e, he⟩ : ∃ e, (F b)[j]? = some e := ⟨_, List.getElem?_eq_getElem (by omega)⟩
      refine hel j y e H3 _ hy he s3 t3 fun v H4 s4 rv => ?_
      have hcount : acc3.length < 100000 := by
        have l1 := r3.len
        have l2 : (bs.take (i + 1)).flatMap F = (bs.take i).flatMap F ++ F b := by rw [take_succ' hb]; simp
        have l3 : ((bs.take (i + 1)).flatMap F).length ≤ (bs.flatMap F).length := by
          conv => rhs; rw [← List.take_append_drop (i + 1) bs]
          rw [List.flatMap_append, List.length_append]; omega
        rw [l2] at l3
        simp only [List.length_append, List.length_take] at l1 l3
        omega
      have tp : Tp H4 (upd H4 Dd (.lst (acc3 ++ [v]))) := .lst (s4 _ _ d3)
      refine ⟨acc3, s4 _ _ d3, Nat.lt_of_lt_of_le hcount (by decide), sm_own (s3.trans s4) hD, (t3.trans (.same s4)).trans tp, by rw [upd_ne npD]; exact s4 _ _ hp3, _, upd_same, ?_⟩
      rw [take_succ' he, ← List.append_assoc]
      exact (r3.mono m ((Tp.same s4).trans tp)).snoc (m.mono tp rv)
    · obtain ⟨s3, t3, hp3, acc3, d3, r3⟩ := q
      refine ⟨s3, acc3, d3, ?_⟩
      rw [take_succ' hb]
      rw [hyl, List.take_length] at r3
      simpa using r3
  · have e : i = xs.length := by omega
    subst e
    rw [← hlen, List.take_length] at h2
    exact .inl ⟨⟨xs, hxa, Nat.le_refl _⟩, q Dd _ acc sm hD h1 h2⟩
end
section
variable {σ : L2.St} {H : Hp} {ta tb te : TE} {K : PySem.W.Frag} {g : TG} {tz tb' : TS} {D : Ends}
/-- for i in range(n) -/
theorem q_range1 {n : Nat} (hn : n < 1000000) (ha : Val ta σ H (.int (n : Nat))) (Pv : Nat → L2.St → Hp → Prop) (h0 : Pv 0 σ H)
    (hs : ∀ i σ H, i < n → Pv i σ H → g (.int (i : Nat)) σ H fun σ2 H2 => tb' { D with nx := Pv (i + 1), ct := Pv (i + 1), bk := tz D } σ2 H2) (hd : ∀ σ H, Pv n σ H → tz D σ H) : tSeq (tFor (iRng1 (tCons ta tNil)) g tb') tz D σ H := by
  refine ha _ ⟨_, rfl, ?_, ?_, ?_⟩
  · have h1 := hn; omega
  · have h1 := hn; omega
  · have := for_range (D := { D with nx := tz D }) (lo := 0) (n := n) (g := g) (tb := tb') Pv h0 (fun i σ H hi p => by simpa using hs i σ H hi p) hd
    simpa using this
theorem s_range1 {n : Nat} (hn : n < 1000000) (ha : Val ta σ H (.int (n : Nat))) (Pv : Nat → L2.St → Hp → Prop) (h0 : Pv 0 σ H)
    (hs : ∀ i σ H, i < n → Pv i σ H → g (.int (i : Nat)) σ H fun σ2 H2 => tb' { D with nx := Pv (i + 1), ct := Pv (i + 1), bk := D.nx } σ2 H2) (hd : ∀ σ H, Pv n σ H → D.nx σ H) : tFor (iRng1 (tCons ta tNil)) g tb' D σ H := by
  refine ha _ ⟨_, rfl, ?_, ?_, ?_⟩
  · have h1 := hn; omega
  · have h1 := hn; omega
  · have := for_range (D := D) (lo := 0) (n := n) (g := g) (tb := tb') Pv h0 (fun i σ H hi p => by simpa using hs i σ H hi p) hd
    simpa using this
end
end PX
end

section
set_option Elab.async false
set_option maxRecDepth 100000
set_option maxHeartbeats 4000000
set_option linter.all false
/-! Dicts with numbers as keys; counts. -/
namespace PX
open PySem PySem.Spec PyProof.Rows L2 PR
/-- distinct things out of a list are no more than the list has -/
theorem nodup_le {α : Type} [DecidableEq α] : ∀ {l m : List α}, l.Nodup → (∀ x ∈ l, x ∈ m) → l.length ≤ m.length
  | [], _, _, _ => Nat.zero_le _
  | a :: l, m, nd, h => by
    obtain ⟨h1, h2⟩ := List.nodup_cons.mp nd
    have ha := h a List.mem_cons_self
    have := nodup_le (m := m.erase a) h2 fun x hx => by
      have hm := h x (List.mem_cons_of_mem _ hx)
      have hne : x ≠ a := fun z => h1 (z ▸ hx)
      exact (List.mem_erase_of_ne hne).mpr hm
    rw [List.length_erase_of_mem ha] at this
    have := List.length_pos_of_mem ha
    rw [List.length_cons]
    omega
theorem ins_nodup {α : Type} [DecidableEq α] {xs : List α} {a : α} (h : xs.Nodup) : (ins xs a).Nodup := by
  unfold ins
  split
  · exact h
  · rename_i hn; exact nodup_snoc h hn
theorem foldl_ins_nodup {α : Type} [DecidableEq α] : ∀ {ys xs : List α}, xs.Nodup → (ys.foldl ins xs).Nodup
  | [], _, h => h
  | y :: ys, xs, h => by rw [List.foldl_cons]; exact foldl_ins_nodup (ins_nodup h)
/-- the keys of a dict that is written -/
theorem keys_put {κ : Type} [DecidableEq κ] (kvs : List (κ × V)) (k : κ) (v : V) : (putK kvs k v).map (·.1) = ins (kvs.map (·.1)) k := by
  unfold putK ins
  by_cases h : k ∈ kvs.map (·.1)
  · have : (kvs.any fun kv => decide (kv.1 = k)) = true := by
      obtain ⟨p, hp, e⟩ := List.mem_map.mp h
      exact List.any_eq_true.mpr ⟨p, hp, by simpa using e⟩
    rw [if_pos this, if_pos h, List.map_map]
    refine List.map_congr_left fun p _ => ?_
    simp only [Function.comp]
    split <;> rfl
  · have : ¬ (kvs.any fun kv => decide (kv.1 = k)) = true := fun z => by
      obtain ⟨p, hp, e⟩ := List.any_eq_true.mp z
      exact h (List.mem_map.mpr ⟨p, hp, by simpa using e⟩)
    rw [if_neg this, if_neg h, List.map_append]
    rfl
/-- a dict with these numbers as keys, in this order -/
def IntD (H : Hp) (d : Addr) (ns : List Int) : Prop := ∃ kvs : List (Key × V), H d = some (.dK kvs) ∧ kvs.map (·.1) = ns.map Sum.inl
theorem inl_ins (ns : List Int) (n : Int) : ins (ns.map (Sum.inl : Int → Key)) (Sum.inl n) = (ins ns n).map Sum.inl := by
  unfold ins
  by_cases h : n ∈ ns
  · rw [if_pos h, if_pos (List.mem_map.mpr ⟨n, h, rfl⟩)]
  · rw [if_neg h, if_neg fun z => by
      obtain ⟨m, hm, e⟩ := List.mem_map.mp z
      cases e
      exact h hm]
    rw [List.map_append]
    rfl
section
variable {σ : L2.St} {H : Hp} {td ty tv : TE} {tz : TS} {D : Ends} {d : Addr} {ns : List Int} {n : Int} {v : V} {Q : VK} {K : PySem.W.Frag}
theorem intD_put (h : IntD H d ns) (hv : Val tv σ H v) (hd : Val td σ H (.ref d)) (hy : Val ty σ H (.int n)) (hl : ns.length < 100000) (q : ∀ kvs, IntD (upd H d (.dK kvs)) d (ins ns n) → D.nx σ (upd H d (.dK kvs))) : sDPut td ty tv D σ H := by
  obtain ⟨kvs, h1, h2⟩ := h
  have hl2 : kvs.length < 100000 := by
    have := congrArg List.length h2
    rw [List.length_map, List.length_map] at this
    omega
  refine hv _ (hd _ (hy _ ⟨d, _, rfl, .inl ⟨kvs, Sum.inl n, h1, rfl, big6 hl2, rfl⟩, q _ ⟨_, upd_same, ?_⟩⟩))
  rw [keys_put, h2, inl_ins]
theorem intD_keys {kvs : List (Key × V)} (h : kvs.map (·.1) = ns.map Sum.inl) : (kvs.map fun kv => kV kv.1) = ns.map V.int := by
  have : (kvs.map fun kv => kV kv.1) = (kvs.map (·.1)).map kV := by rw [List.map_map]; rfl
  rw [this, h, List.map_map]
  rfl
end
end PX
end

section
set_option Elab.async false
set_option maxRecDepth 100000
set_option maxHeartbeats 4000000
set_option linter.all false
/-! y = {k: v for ..}, as a statement. -/
namespace PX
open PySem PySem.Spec PyProof.Rows L2 PR
section
variable {X : Cx}
theorem sw_trueD {kx vx : Expr} {gs : List Comprehension} {scope : Scope} {pos py : Pos} {y : Str} {l : Nat} {env : Env} (hk : env.scope.kind = .function) (hy : env.scope.names.lookup y = some .local) (hl : (py.line == pos.line) = true)
    (ha : (scope.names.any fun (n, k) => n == y && (k == .local || k == .cell)) = false) : swapsWith (.DictComp kx vx gs scope pos) (some (.Name y py)) l env = pure true := by
  have ky : env.kindOf y = some .local := hy
  have hb : env.blockKind = .function := by unfold Env.blockKind; rw [hk]; rfl
  unfold swapsWith
  simp only [hb, ky, ha, Expr.pos, hl]
  rfl
variable {i : Nat} {y : Str} {py : Pos} {kx vx tg iter : Expr} {ifs : List Expr} {scope : Scope} {own : List (Str × Nat)} {pos spos : Pos} {wi : TI} {g : TG} {tt : TT} {tk tv : TE}
theorem ps_setDc (hc : X.calm = true) (hN : X.N.Nodup) (hy : X.N[i]? = some y) (hyl : X.env.scope.names.lookup y = some .local)
    (hsw : swapsWith (.DictComp kx vx [⟨tg, iter, ifs, 0⟩] scope pos) (some (.Name y py)) spos.line X.env = pure true) (hi : PI X tg iter wi) (ok : BlkOk X.N X.env.scope scope own)
    (hg : ∀ (s : Shared) (H : Hp) (C : Addr) (cl : List (Str × Addr)) (fp : List Addr), PG (X.blk s H scope (compEnvC scope cl C X.env) fp) tg g)
    (ht : ∀ (s : Shared) (H : Hp) (C : Addr) (cl : List (Str × Addr)) (fp : List Addr), PTs (X.blk s H scope (compEnvC scope cl C X.env) fp) ifs tt)
    (hk : ∀ (s : Shared) (H : Hp) (C : Addr) (cl : List (Str × Addr)) (fp : List Addr), PE (X.blk s H scope (compEnvC scope cl C X.env) fp) kx tk)
    (he : ∀ (s : Shared) (H : Hp) (C : Addr) (cl : List (Str × Addr)) (fp : List Addr), PE (X.blk s H scope (compEnvC scope cl C X.env) fp) vx tv)
    (hs : ∀ x, foldedSetIterable iter X.env x = pure x := by intro _; rfl) :
    PS X (.Assign [.Name y py] (.DictComp kx vx [⟨tg, iter, ifs, 0⟩] scope pos) spos) (tAsg (tDc wi g tt tk tv (own.map (·.2))) (gName i)) := by
  refine ⟨fun pins s σ H D I h => ?_⟩
  rw [exec_Assign_Name_used _ _ _ _ hsw]
  refine wpAny_bind (wpAny_standAt (wpAny_bind ?_))
  show wpAny _ X.A (do let _ ← comprehension (.DictComp kx vx [⟨tg, iter, ifs, 0⟩] scope pos) scope X.env (firstIterPos [⟨tg, iter, ifs, 0⟩] pos) newDict false (eval iter X.env) (some (assign (.Name y py) X.env))) _ _ s
  have h : tDc wi g tt tk tv (own.map (·.2)) σ H (fun x H1 => gName i x σ H1 D.nx) := h
  refine wpAny_bind (thn (dc_core (Qf := fun _ s' => SP X pins D .next s') hc hN I hi ok hg ht hk he hs h fun L C s' m H' I' q hn f => ?_) fun _ s' hq => wpAny_pure (wpAny_pure hq))
  show wpAny _ _ (assign (.Name y py) X.env (.ref L)) _ _ _
  refine wpAny_assign_Name (store_ok2 (v := V.ref L) I' hN hy (.inl hyl) rfl (fun s2 I2 ⟨a, sb, ha⟩ => ?_) (.inr hyl))
  obtain ⟨f0, f1, f2, f3, f4, f5⟩ := f
  have haC : C ≠ a := by
    rcases ha with z | z
    · rw [z]; exact f1
    · exact fun e => f4 y a z e.symm
  refine ⟨m, hn.sameBut sb haC, fun h3 sb3 => ?_⟩
  exact ⟨_, H', I2.turned (t' := s2.toks) (fun b o hb e => (sb3.2 b hb).trans e) f0 f1 f3 f4 f5, q⟩
theorem ps_setXDc (κ : Type) [DecidableEq κ] [DKey κ] (hu : X.A.units < cLine) (hc : X.calm = true) (hN : X.N.Nodup) (hy : X.N[i]? = some y) (hyl : X.env.scope.names.lookup y = some .local)
    (hsw : swapsWith (.DictComp kx vx [⟨tg, iter, ifs, 0⟩] scope pos) (some (.Name y py)) spos.line X.env = pure true) (hi : PI X tg iter wi) (ok : BlkOk X.N X.env.scope scope own)
    (hg : ∀ (s : Shared) (H : Hp) (C : Addr) (cl : List (Str × Addr)) (fp : List Addr), PG (X.blk s H scope (compEnvC scope cl C X.env) fp) tg g)
    (ht : ∀ (s : Shared) (H : Hp) (C : Addr) (cl : List (Str × Addr)) (fp : List Addr), PTs (X.blk s H scope (compEnvC scope cl C X.env) fp) ifs tt)
    (hk : ∀ (s : Shared) (H : Hp) (C : Addr) (cl : List (Str × Addr)) (fp : List Addr), PE (X.blk s H scope (compEnvC scope cl C X.env) fp) kx tk)
    (he : ∀ (s : Shared) (H : Hp) (C : Addr) (cl : List (Str × Addr)) (fp : List Addr), PE (X.blk s H scope (compEnvC scope cl C X.env) fp) vx tv)
    (hs : ∀ x, foldedSetIterable iter X.env x = pure x := by intro _; rfl) :
    PS X (.Assign [.Name y py] (.DictComp kx vx [⟨tg, iter, ifs, 0⟩] scope pos) spos) (tAsg (tXDc κ X.prog X.w wi g tt tk tv (own.map (·.2))) (gName i)) := by
  refine ⟨fun pins s σ H D I h => ?_⟩
  rw [exec_Assign_Name_used _ _ _ _ hsw]
  refine wpAny_bind (wpAny_standAt (wpAny_bind ?_))
  show wpAny _ X.A (do let _ ← comprehension (.DictComp kx vx [⟨tg, iter, ifs, 0⟩] scope pos) scope X.env (firstIterPos [⟨tg, iter, ifs, 0⟩] pos) newDict false (eval iter X.env) (some (assign (.Name y py) X.env))) _ _ s
  have h : tXDc κ X.prog X.w wi g tt tk tv (own.map (·.2)) σ H (fun x H1 => gName i x σ H1 D.nx) := h
  refine wpAny_bind (thn (xdc_core κ (Qf := fun _ s' => SP X pins D .next s') hu hc hN I hi ok hg ht hk he hs h fun L C s' m H' I' q hn f => ?_) fun _ s' hq => wpAny_pure (wpAny_pure hq))
  show wpAny _ _ (assign (.Name y py) X.env (.ref L)) _ _ _
  refine wpAny_assign_Name (store_ok2 (v := V.ref L) I' hN hy (.inl hyl) rfl (fun s2 I2 ⟨a, sb, ha⟩ => ?_) (.inr hyl))
  obtain ⟨f0, f1, f2, f3, f4, f5⟩ := f
  have haC : C ≠ a := by
    rcases ha with z | z
    · rw [z]; exact f1
    · exact fun e => f4 y a z e.symm
  refine ⟨m, hn.sameBut sb haC, fun h3 sb3 => ?_⟩
  exact ⟨_, H', I2.turned (t' := s2.toks) (fun b o hb e => (sb3.2 b hb).trans e) f0 f1 f3 f4 f5, q⟩
end
section
variable {σ : L2.St} {H : Hp} {ta : TE} {K : PySem.W.Frag} {a : Addr} {xs : List V} {g : TG} {tt : TT} {tk tv : TE} {vs : List Nat} {Q : VK}
theorem e_xdcT {κ : Type} [DecidableEq κ] [DKey κ] {P : Program} {w : World} (ha : Val ta σ H (.ref a)) (hx : SqT K H a xs)
    (h : ∀ D, H D = none → ∀ H2, H2 = upd H D (dxO P w D []) → DXm P w H2 D ([] : List (κ × V)) → ∃ W : Nat → Nat → Hp → Prop, (∃ m, W 0 m H2) ∧ ∀ i m H, W i m H → ((Itt K a).stop i H ∧ Q (.ref D) H) ∨ ((Itt K a).go i H ∧ ∃ Nx : Hp → Prop, (∀ H', Nx H' → ∃ m', m' < m ∧ W (i + 1) m' H') ∧
      ∀ x H', (Itt K a).yld i H x H' → g x (wipe σ vs) H' fun σ2 H2 => wipe σ2 vs = wipe σ vs ∧ tt σ2 H2 fun b H3 => if b = true then tk σ2 H3 fun y H4 => tv σ2 H4 fun z H5 =>
        ∃ (b : Addr) (kvs : List (κ × V)) (k : κ), y = .ref b ∧ DXm P w H5 D kvs ∧ H5 b = some (.tup (DKey.vs k)) ∧ kvs.length < sizeLine ∧ ∀ H6, DXput P w H5 D (putK kvs k z) H6 → Nx H6 else Nx H3)) : tXDc κ P w (iTup K ta) g tt tk tv vs σ H Q := ha _ ⟨a, rfl, ⟨xs, hx⟩, h⟩
theorem e_dcT (ha : Val ta σ H (.ref a)) (hx : SqT K H a xs)
    (h : ∀ D, H D = none → ∃ W : Nat → Nat → Hp → Prop, (∃ m, W 0 m (upd H D (.dK []))) ∧ ∀ i m H, W i m H →
      ((Itt K a).stop i H ∧ Q (.ref D) H) ∨ ((Itt K a).go i H ∧ ∃ Nx : Hp → Prop, (∀ H', Nx H' → ∃ m', m' < m ∧ W (i + 1) m' H') ∧ ∀ x H', (Itt K a).yld i H x H' → g x (wipe σ vs) H' fun σ2 H2 => wipe σ2 vs = wipe σ vs ∧ tt σ2 H2 fun b H3 =>
        if b = true then tk σ2 H3 fun y H4 => tv σ2 H4 fun z H5 => ∃ kvs k, y = kV k ∧ H5 D = some (.dK kvs) ∧ kvs.length < sizeLine ∧ Nx (upd H5 D (.dK (putK kvs k z))) else Nx H3)) : tDc (iTup K ta) g tt tk tv vs σ H Q := ha _ ⟨a, rfl, ⟨xs, hx⟩, h⟩
end
end PX
end

section
set_option Elab.async false
set_option maxRecDepth 100000
set_option maxHeartbeats 4000000
set_option linter.all false
/-! More readings: gets with the owner told, new tuples, dicts that map entries. -/
namespace PX
open PySem PySem.Spec PyProof.Rows L2 PR
section
variable {β : Type} {P : Program} {w : World} {R : Rp β} {σ : L2.St} {H H' : Hp} {d : Addr} {f : Hd → List β} {h : Hd} {td ty : TE} {Q : VK} {L : List Addr} {n : Nat}
/-- d.get(key, []): an owned list, or a new one -/
theorem e_mmGet (mR : MonoT R) (m : MM R P w H d f L n) (hd : Val td σ H (.ref d)) (hy : New1 ty σ H (DKey.vs h)) (q : ∀ l ys H1, Same H H1 → H1 l = some (.lst ys) → (l ∈ L ∨ H l = none) → All R H1 (f h) ys → Q (.ref l) H1) : tXGet2 Hd P w td ty (tLst tNil) σ H Q := by
  obtain ⟨kvs, h1, _, h3, _⟩ := m.dict
  refine hd _ ⟨d, rfl, ⟨kvs, h1.rd⟩, hy _ fun b H1 s1 hb => ⟨Nat.zero_le _, fun p hp => ?_⟩⟩
  have s2 : Same H (upd H1 p (.lst [])) := sm_new s1 hp
  refine ⟨b, kvs, h, rfl, h1.rd.mono (.same s2), sm_up hp _ _ hb, ?_⟩
  have hk := h3 h
  cases e : valV kvs h with
  | none =>
    rw [e] at hk
    refine q p [] _ s2 upd_same (.inr (s1.free hp)) ?_
    rw [show f h = [] from hk]
    exact .nil
  | some v =>
    rw [e] at hk
    obtain ⟨l, ys, rfl, hin, hl, hr⟩ := hk
    exact q l ys _ s2 (s2 _ _ hl) (.inl hin) (hr.mono mR (.same s2))
/-- what MM has stays where its own addresses do -/
theorem MM.stay (mR : MonoT R) (hl : ∀ b ∈ L, ∀ u, H b = some u → H' b = some u) (e : Tp H H') (m : MM R P w H d f L n) : MM R P w H' d f L n := m.frame mR (fun b hb => by
  rcases m.kind b hb with ⟨φ, q⟩ | ⟨ys, q⟩ <;> rw [q, hl b hb _ q]) e
theorem MM.live (m : MM R P w H d f L n) {b : Addr} (hb : H b = none) : b ∉ L := fun z => by
  rcases m.kind b z with ⟨φ, q⟩ | ⟨ys, q⟩ <;> (rw [hb] at q; cases q)
theorem MM.congr {g : Hd → List β} (m : MM R P w H d f L n) (e : ∀ h, f h = g h) : MM R P w H d g L n := by
  rw [← funext e]; exact m
end
section
variable {σ : L2.St} {H : Hp} {te ta tb tv td ty : TE} {tz : TS} {D : Ends} {Q : VK} {K : PySem.W.Frag} {xs ys : List V} {a b : Addr}
theorem New1.run {Q : VK} (h : New1 te σ H xs) (q : ∀ b H1, Same H H1 → H1 b = some (.tup xs) → Q (.ref b) H1) : te σ H Q := h Q q
/-- t + u, of tuples -/
theorem e_catT (ha : Val ta σ H (.ref a)) (hx : H a = some (.tup xs)) (hb : New1 tb σ H ys) (hl : xs.length + ys.length ≤ 100000) : New1 (tOp (rCatA K) ta tb) σ H (xs ++ ys) := fun Q q => ha _ (hb _ fun b H1 s1 hb1 => by
  refine ⟨a, b, xs, ys, rfl, rfl, SqT.of (s1 _ _ hx), SqT.of hb1, Nat.le_trans hl (by decide), fun e => ?_, fun _ e => ?_, fun _ _ p hp => q p _ (sm_new s1 hp) upd_same⟩
  · subst e; exact q b H1 s1 hb1
  · subst e; exact q a H1 s1 (by rw [List.append_nil]; exact s1 _ _ hx))
/-- e[:2], of a longer tuple -/
theorem e_pre2 {x y z : V} {r : List V} (ha : Val ta σ H (.ref a)) (hx : H a = some (.tup (x :: y :: z :: r))) : New1 (tSl (rSlT K) ta tNoPart (tPart (tC (.int 2)))) σ H [x, y] := fun Q q => ha _ (by
  have e1 : HT.sIx (x :: y :: z :: r).length 0 (none : Option Int) = 0 := rfl
  have e2 : HT.sIx (x :: y :: z :: r).length (x :: y :: z :: r).length (some 2) = 2 := by
    simp [HT.sIx]
  refine ⟨2, rfl, a, _, rfl, SqT.of hx, ?_, fun p hp => q p _ (sm_up hp) ?_⟩
  · rw [e2]; simp
  · rw [upd_same]
    unfold cutV
    rw [e1, e2]
    rfl)
/-- a write whose value is a new tuple -/
theorem q_xputN {κ : Type} [DecidableEq κ] [DKey κ] {P : Program} {w : World} {kvs : List (κ × V)} {k : κ} (hv : New1 tv σ H xs) (hd : ∀ H1, Same H H1 → Val td σ H1 (.ref a)) (hy : ∀ H1, Same H H1 → New1 ty σ H1 (DKey.vs k)) (d : DXm P w H a kvs) (hl : kvs.length < 100000)
    (q : ∀ b H1 H4, Same H H1 → H1 b = some (.tup xs) → DXput P w H1 a (putK kvs k (.ref b)) H4 → tz D σ H4) : tSeq (sXPut κ P w td ty tv) tz D σ H :=
  hv _ fun b H1 s1 hb => hd H1 s1 _ (hy H1 s1 _ fun b2 H2 s2 hb2 => ⟨a, b2, kvs, k, rfl, rfl, d.same (s1.trans s2), hb2, big6 hl, fun H4 h4 => q b H2 H4 (s1.trans s2) (s2 _ _ hb) h4⟩)
theorem s_xputN {κ : Type} [DecidableEq κ] [DKey κ] {P : Program} {w : World} {kvs : List (κ × V)} {k : κ} (hv : New1 tv σ H xs) (hd : ∀ H1, Same H H1 → Val td σ H1 (.ref a)) (hy : ∀ H1, Same H H1 → New1 ty σ H1 (DKey.vs k)) (d : DXm P w H a kvs) (hl : kvs.length < 100000)
    (q : ∀ b H1 H4, Same H H1 → H1 b = some (.tup xs) → DXput P w H1 a (putK kvs k (.ref b)) H4 → D.nx σ H4) : sXPut κ P w td ty tv D σ H :=
  hv _ fun b H1 s1 hb => hd H1 s1 _ (hy H1 s1 _ fun b2 H2 s2 hb2 => ⟨a, b2, kvs, k, rfl, rfl, d.same (s1.trans s2), hb2, big6 hl, fun H4 h4 => q b H2 H4 (s1.trans s2) (s2 _ _ hb) h4⟩)
end
/-! ### a dict that stands for a list of pairs, in its order -/
section
variable {κ α : Type} [DecidableEq κ] [DKey κ] {P : Program} {w : World} {R : Rp α} {H H' : Hp} {d : Addr}
def MapM (R : Rp α) (P : Program) (w : World) (H : Hp) (d : Addr) (K : List (κ × α)) : Prop := ∃ kvs : List (κ × V), DXm P w H d kvs ∧ Paired (fun (x : κ × α) (p : κ × V) => p.1 = x.1 ∧ R H x.2 p.2) K kvs
def MapR (R : Rp α) (P : Program) (w : World) (H : Hp) (d : Addr) (K : List (κ × α)) : Prop := ∃ kvs : List (κ × V), DX P w H d kvs ∧ Paired (fun (x : κ × α) (p : κ × V) => p.1 = x.1 ∧ R H x.2 p.2) K kvs
theorem MapM.r {K : List (κ × α)} (m : MapM R P w H d K) : MapR R P w H d K := let ⟨kvs, h1, h2⟩ := m; ⟨kvs, h1.rd, h2⟩
theorem MapR.mono (mR : MonoT R) {K : List (κ × α)} (e : Lx H H') (m : MapR R P w H d K) : MapR R P w H' d K := let ⟨kvs, h1, h2⟩ := m; ⟨kvs, h1.mono e, Paired.mapP h2 fun _ _ z => ⟨z.1, mR.mono e.tp z.2⟩⟩
theorem MapM.stay (mR : MonoT R) {K : List (κ × α)} (h : H' d = H d) (e : Tp H H') (m : MapM R P w H d K) : MapM R P w H' d K := let ⟨kvs, h1, h2⟩ := m; ⟨kvs, h1.fr h e, Paired.mapP h2 fun _ _ z => ⟨z.1, mR.mono e z.2⟩⟩
theorem MapM.ext {K : List (κ × α)} (m : MapM R P w H d K) : ∃ φ, H d = some (.ext φ) := let ⟨_, h1, _⟩ := m; h1.ext
theorem MapM.same (mR : MonoT R) {K : List (κ × α)} (e : Same H H') (m : MapM R P w H d K) : MapM R P w H' d K := by
  obtain ⟨φ, q⟩ := m.ext
  exact m.stay mR (by rw [q, e _ _ q]) (.same e)
theorem pair_keys {K : List (κ × α)} {kvs : List (κ × V)} (h : Paired (fun (x : κ × α) (p : κ × V) => p.1 = x.1 ∧ R H x.2 p.2) K kvs) : kvs.map (·.1) = K.map (·.1) := by
  induction h with
  | nil => rfl
  | cons h t ih => rw [List.map_cons, List.map_cons, h.1, ih]
theorem pair_val {K : List (κ × α)} {kvs : List (κ × V)} (h : Paired (fun (x : κ × α) (p : κ × V) => p.1 = x.1 ∧ R H x.2 p.2) K kvs) (k : κ) : match K.find? (fun x => decide (x.1 = k)) with
    | none => valV kvs k = none
    | some x => ∃ v, valV kvs k = some v ∧ R H x.2 v := by
  unfold valV
  induction h with
  | nil => exact rfl
  | @cons x p K kvs h t ih =>
    rw [List.find?_cons, List.find?_cons, h.1]
    by_cases e : x.1 = k
    · simp only [decide_eq_true e]; exact ⟨p.2, rfl, h.2⟩
    · simp only [decide_eq_false e]; exact ih
theorem valV_isSome (kvs : List (κ × V)) (k : κ) : (valV kvs k).isSome = decide (k ∈ kvs.map (·.1)) := by
  rw [Bool.eq_iff_iff, decide_eq_true_eq]
  unfold valV
  rw [Option.isSome_map, List.find?_isSome]
  constructor
  · rintro ⟨p, hp, e⟩
    exact List.mem_map.mpr ⟨p, hp, by simpa using e⟩
  · intro z
    obtain ⟨p, hp, e⟩ := List.mem_map.mp z
    exact ⟨p, hp, by simpa using e⟩
/-- one more, or as before: what the Python text does behind `not in` -/
theorem MapM.add (mR : MonoT R) {K : List (κ × α)} {k : κ} {x : α} {v : V} (m : MapM R P w H d K) (hn : k ∉ K.map (·.1)) (hv : R H x v) {kvs : List (κ × V)} (hk : Paired (fun (x : κ × α) (p : κ × V) => p.1 = x.1 ∧ R H x.2 p.2) K kvs) (d0 : DXm P w H d kvs) (h4 : DXput P w H d (putK kvs k v) H') : MapM R P w H' d (K ++ [(k, x)]) := by
  obtain ⟨dm, fr, lo⟩ := DXm.put h4 d0
  have hnone : valV kvs k = none := by
    have := valV_isSome kvs k
    rw [pair_keys hk, decide_eq_false hn] at this
    cases e : valV kvs k with
    | none => rfl
    | some v => rw [e] at this; cases this
  refine ⟨_, dm, ?_⟩
  rw [putK_new v hnone]
  exact Paired.snoc (Paired.mapP hk fun _ _ z => ⟨z.1, mR.mono lo.tp z.2⟩) ⟨rfl, mR.mono lo.tp hv⟩
theorem MapM.len {K : List (κ × α)} {kvs : List (κ × V)} (hk : Paired (fun (x : κ × α) (p : κ × V) => p.1 = x.1 ∧ R H x.2 p.2) K kvs) : kvs.length = K.length := (Paired.length hk).symm
end
end PX
end

section
set_option Elab.async false
set_option maxRecDepth 100000
set_option maxHeartbeats 4000000
set_option linter.all false
/-! sorted, with what the items stand for; the order of ranks. -/
namespace PX
open PySem PySem.Spec PyProof.Rows L2 PR
def rSortedR (K : PySem.W.Frag) {β : Type} (enc : β → PyData) (R : Rp β) : List V → Hp → VK → Prop := fun vs H Q => ∃ (a : Addr) (xs : List V) (bs : List β), vs = [V.ref a] ∧ SqL K H a xs ∧ Paired (fun x b => Dp K H x (enc b) ∧ R H b x) xs bs ∧
  PySem.W.AllAlike (bs.map enc) ∧ PySem.W.Sortable (bs.map enc) ∧ (∀ b ∈ bs, (enc b).depth ≤ 8) ∧
  ∀ (ys : List V) (p : Addr), H p = none → Paired (fun y b => R H b y) ys (bs.mergeSort (PySem.W.dataLe false enc)) → Q (.ref p) (upd H p (.lst ys))
theorem cr_sortedR {X : Cx} {β : Type} (enc : β → PyData) (R : Rp β) (hu : X.A.units + 64 < cLine) : CallR X (.builtin "sorted") (rSortedR X.K enc R) := by
  intro pins s σ H xs us Q I r h
  obtain ⟨a, xs, bs, rfl, hl, hp, hal, hk, hd, q⟩ := h
  obtain ⟨u, rfl, rx⟩ := vals1 r
  cases rx
  obtain ⟨its, rv, pl, hz⟩ := I.list hl
  have each : ∀ {xs : List V} {its : List Value} {bs : List β}, Vals xs its → Paired (fun x b => Dp X.K H x (enc b) ∧ R H b x) xs bs → PySem.W.EachIs (fun u b => ∃ x, RelV x u ∧ Dp X.K H x (enc b) ∧ R H b x) its bs := by
    intro xs its bs rv hp
    induction hp generalizing its with
    | nil => cases rv; exact .nil
    | cons h t ih =>
      cases rv with
      | cons r rr => exact .cons ⟨_, r, h⟩ (ih rr)
  have e1 := each rv hp
  have e2 : PySem.W.EachIs (fun v b => ∃ as, Reads s.heap v (enc b) as) its bs := e1.mono fun v b ⟨x, rx, dx, _⟩ => Dp.reads I (enc b) x v dx rx
  have hlen : bs.length ≤ sizeLine := by rw [← Paired.length hp]; exact hz
  refine PySem.W.sorted_data (vs := its) (bs := bs) (enc := enc) (R := fun u b => ∃ x, RelV x u ∧ Dp X.K H x (enc b) ∧ R H b x) pl.isList e1 e2 hal hk hlen (fun b hb => ?_) fun out ho eo => ?_
  · have := hd b hb
    omega
  · have back : ∀ {out : List Value} {cs : List β}, PySem.W.EachIs (fun u b => ∃ x, RelV x u ∧ Dp X.K H x (enc b) ∧ R H b x) out cs → ∃ ys : List V, Vals ys out ∧ Paired (fun y b => R H b y) ys cs := by
      intro out cs e
      induction e with
      | nil => exact ⟨[], .nil, .nil⟩
      | cons h t ih =>
        obtain ⟨x, h1, _, h2⟩ := h
        obtain ⟨ys, h3, h4⟩ := ih
        exact ⟨x :: ys, .cons h1 h3, .cons h2 h4⟩
    obtain ⟨ys, r1, r2⟩ := back eo
    obtain ⟨c, hc⟩ := sortedAll_at s.heap its (List.toArray out)
    refine ⟨.ref (s.heap.objs.size + 1), _, I.laid (a := s.heap.objs.size + 1) (o := .lst ys) (t' := s.toks) (fun b o e => sortedAll_old e) (Nat.le_succ _) ⟨?_, out, c, r1, hc⟩, rfl, q ys _ (I.hok.fresh (Nat.le_succ _)) r2⟩
    rw [r1.length, ho]
    exact hlen
theorem flip_all {β : Type} {R : Rp β} {H : Hp} {ys : List V} {bs : List β} (h : Paired (fun y b => R H b y) ys bs) : All R H bs ys := by
  induction h with
  | nil => exact .nil
  | cons h t ih => exact .cons h ih
/-! ### entries and ranks as data -/
def encHd (h : Hd) : PyData := .tuple [.int h.1, .int h.2]
def encRk (p : Hd × Int) : PyData := .tuple [encHd p.1, .int p.2]
def encEn (e : Ent) : PyData := .tuple [.int e.s, .int e.l, .int e.g, .bool e.f]
theorem dp_hd {K : PySem.W.Frag} {H : Hp} {b : Addr} {h : Hd} (e : H b = some (.tup (DKey.vs h))) : Dp K H (.ref b) (encHd h) := .tup (SqT.of e) (.cons (.int _) (.cons (.int _) .nil))
theorem dp_en {K : PySem.W.Frag} {H : Hp} {b : Addr} {h : Ent} (e : H b = some (.tup (DKey.vs h))) : Dp K H (.ref b) (encEn h) := .tup (SqT.of e) (.cons (.int _) (.cons (.int _) (.cons (.int _) (.cons (.bl _) .nil))))
theorem alike_rk (bs : List (Hd × Int)) : PySem.W.AllAlike (bs.map encRk) := by
  intro d hd d' hd'
  obtain ⟨p, _, rfl⟩ := List.mem_map.mp hd
  obtain ⟨q, _, rfl⟩ := List.mem_map.mp hd'
  rfl
theorem alike_en (bs : List Ent) : PySem.W.AllAlike (bs.map encEn) := by
  intro d hd d' hd'
  obtain ⟨p, _, rfl⟩ := List.mem_map.mp hd
  obtain ⟨q, _, rfl⟩ := List.mem_map.mp hd'
  rfl
theorem sortable_rk (bs : List (Hd × Int)) : PySem.W.Sortable (bs.map encRk) := .inl fun d hd => by
  obtain ⟨p, _, rfl⟩ := List.mem_map.mp hd
  exact ⟨_, _, rfl⟩
theorem sortable_en (bs : List Ent) : PySem.W.Sortable (bs.map encEn) := .inl fun d hd => by
  obtain ⟨p, _, rfl⟩ := List.mem_map.mp hd
  exact ⟨_, _, rfl⟩
theorem depth_rk (p : Hd × Int) : (encRk p).depth ≤ 8 := by
  simp [encRk, encHd, PyData.depth, PyData.depthAll]
theorem depth_en (p : Ent) : (encEn p).depth ≤ 8 := by
  simp [encEn, PyData.depth, PyData.depthAll]
theorem hdLt_of_le {a b : Hd × Int} (h : PySem.W.dataLe false encRk a b = true) (hne : a.1 ≠ b.1) : hdLt a.1 b.1 = true := by
  obtain ⟨⟨a1, a2⟩, ar⟩ := a
  obtain ⟨⟨b1, b2⟩, br⟩ := b
  have h' : (!PySem.W.dataLt (encRk ((b1, b2), br)) (encRk ((a1, a2), ar))) = true := h
  have hq : ¬ (b1 = a1 ∧ b2 = a2) := fun z => hne (by rw [z.1, z.2])
  have e : PyData.eqv (encHd (b1, b2)) (encHd (a1, a2)) = false := by
    refine Bool.eq_false_iff.mpr fun z => hq ?_
    simpa [encHd, PyData.eqv, PyData.eqvAll] using z
  have e2 : PySem.W.dataLt (encRk ((b1, b2), br)) (encRk ((a1, a2), ar)) = decide (b1 < a1 ∨ (b1 = a1 ∧ b2 < a2)) := by
    unfold encRk
    rw [PySem.W.dataLt_tuple, PySem.W.dataLt_cons (by rfl), e, if_neg Bool.false_ne_true]
    exact PySem.W.dataLt_ii b1 b2 a1 a2
  rw [e2] at h'
  have h3 : ¬ (b1 < a1 ∨ (b1 = a1 ∧ b2 < a2)) := fun z => by rw [decide_eq_true z] at h'; cases h'
  unfold hdLt
  by_cases q : a1 = b1
  · simp only [q, if_true]
    refine decide_eq_true ?_
    have : ¬ (b1 = a1 ∧ b2 < a2) := fun z => h3 (.inr z)
    have h4 : ¬ b2 < a2 := fun z => this ⟨q.symm, z⟩
    have h5 : ¬ b2 = a2 := fun z => hq ⟨q.symm, z⟩
    omega
  · simp only [q, if_false]
    refine decide_eq_true ?_
    have h4 : ¬ b1 < a1 := fun z => h3 (.inl z)
    omega
theorem asc_of_pairwise : ∀ {R : List (Hd × Int)}, (R.map (·.1)).Nodup → R.Pairwise (fun a b => PySem.W.dataLe false encRk a b = true) → ascJ R = true
  | [], _, _ => rfl
  | [_], _, _ => rfl
  | a :: b :: r, nd, h => by
    simp only [ascJ, Bool.and_eq_true]
    rw [List.pairwise_cons] at h
    rw [List.map_cons, List.nodup_cons] at nd
    refine ⟨hdLt_of_le (h.1 b List.mem_cons_self) fun z => nd.1 ?_, asc_of_pairwise nd.2 h.2⟩
    rw [z]
    exact List.mem_map.mpr ⟨b, List.mem_cons_self, rfl⟩
theorem ranks_sorted {R : List (Hd × Int)} (nd : (R.map (·.1)).Nodup) : (R.mergeSort (PySem.W.dataLe false encRk)).Perm R ∧ ascJ (R.mergeSort (PySem.W.dataLe false encRk)) = true := by
  have p : (R.mergeSort (PySem.W.dataLe false encRk)).Perm R := List.mergeSort_perm _ _
  exact ⟨p, asc_of_pairwise ((p.map _).nodup_iff.mpr nd) (PySem.W.sort_pairwise (PySem.W.sortLe_total _ _ _) R)⟩
end PX
end

section
set_option Elab.async false
set_option maxRecDepth 100000
set_option maxHeartbeats 4000000
set_option linter.all false
/-! The text by places; what the top has written. -/
namespace PW
open PySem L2 PX PR
def top (i : Nat) : Stmt := PySem.Challenge.pw_pilereach_k93_whole_endless_is_judged.main.body.getD i (.Pass ⟨0, 0, 0, 0⟩)
abbrev sTkInit : Stmt := inClass (top 1) 0
abbrev sTkStep : Stmt := inClass (top 1) 1
abbrev sTkEntry : Stmt := inClass (top 1) 2
abbrev sTkRead : Stmt := inClass (top 1) 3
abbrev sTkMove : Stmt := inClass (top 1) 4
abbrev sTakings : Stmt := top 2
abbrev sBehind : Stmt := top 3
abbrev sWalk : Stmt := top 4
abbrev sTbInit : Stmt := inClass (top 6) 0
abbrev sTbFrom : Stmt := inClass (top 6) 1
abbrev sTbClosed : Stmt := inClass (top 6) 2
abbrev sTbEdges : Stmt := inClass (top 6) 3
abbrev sIsHead : Stmt := top 7
abbrev sEntries : Stmt := top 8
abbrev sRanks : Stmt := top 9
abbrev sFalls : Stmt := top 10
abbrev sStarts : Stmt := top 11
abbrev sEver : Stmt := top 13
abbrev sNot : Stmt := top 14
abbrev sTakes : Stmt := top 15
abbrev sRwInit : Stmt := inClass (top 17) 0
abbrev sRwMissing : Stmt := inClass (top 17) 1
abbrev sRwAdd : Stmt := inClass (top 17) 3
abbrev sHdInit : Stmt := inClass (top 19) 0
abbrev sHdPut : Stmt := inClass (top 19) 1
abbrev sHdMoves : Stmt := inClass (top 19) 2
abbrev sHdReached : Stmt := inClass (top 19) 3
abbrev sWayTo : Stmt := top 20
abbrev sToInit : Stmt := inClass (top 22) 0
abbrev sToEntries : Stmt := inClass (top 22) 1
abbrev sToUse : Stmt := inClass (top 22) 2
abbrev sDescents : Stmt := top 24
abbrev sRingAt : Stmt := top 25
abbrev sToldRanks : Stmt := top 26
abbrev sToldMoves : Stmt := top 27
abbrev sEndless : Stmt := top 28
abbrev sStInit : Stmt := inClass (top 33) 0
abbrev sFits : Stmt := top 34
abbrev sMaInit : Stmt := inClass (top 35) 0
abbrev sNumbers : Stmt := top 37
abbrev sRows : Stmt := top 38
abbrev sMachine : Stmt := top 39
abbrev sMade : Stmt := top 40
abbrev sConf : Stmt := top 41
abbrev sMarks : Stmt := top 42
abbrev sLaw : Stmt := top 43
/-- a def of the module; a method; a class that is made -/
def DefAt (K : PySem.W.Frag) (mg : Str → Option Value) (x : Str) (st : Stmt) (ps : List Str) : Prop := ∃ (f : Addr) (fd : FuncData), Fun K x x st f fd ∧ Binds K fd ps [] ∧ mg x = some (.ref f)
def MethAt (K : PySem.W.Frag) (C : Addr) (x qual : Str) (st : Stmt) (ps : List Str) : Prop := ∃ (f : Addr) (fd : FuncData), Fun K x qual st f fd ∧ Binds K fd ps [] ∧ Meth K C x f
def InitAt (K : PySem.W.Frag) (C : Addr) (qual : Str) (st : Stmt) (ps : List Str) : Prop := ∃ (f : Addr) (fd : FuncData), Fun K "__init__" qual st f fd ∧ Binds K fd ps [] ∧ Mk K C f
/-- Step's: with two defaults, and called with all arguments -/
def InitD (K : PySem.W.Frag) (C : Addr) (qual : Str) (st : Stmt) (ps : List Str) : Prop := ∃ (f : Addr) (fd : FuncData) (a : Addr), FunD K "__init__" qual (defArgs st) (defBody st) (defScope st) [.ref a, .int 1] [] f fd ∧ Binds K fd ps [] ∧ Mk K C f
/-- a class: plain, none of the names an attribute of it -/
structure ClsAt (K : PySem.W.Frag) (C : Addr) (ns : List Str) : Prop where
  cl : Cls K C
  no : ∀ n ∈ ns, NoAttr K C n
/-- built-in names that the module does not bind -/
structure Txt (K : PySem.W.Frag) (mg : Str → Option Value) (c : Cs) : Prop where
  tk : ClsAt K c.tk ["steps", "marks", "entries"]
  tb : ClsAt K c.tb ["known", "by_head"]
  rw : ClsAt K c.rw ["found", "places", "rows"]
  hd : ClsAt K c.hd ["moves"]
  to : ClsAt K c.to ["machine", "marked", "found", "leaving"]
  st : ClsAt K c.st ["state", "letter", "goal", "laid", "weight"]
  ma : ClsAt K c.ma ["states", "letters", "steps"]
  mtk : mg "Takings" = some (.ref c.tk)
  mtb : mg "Table" = some (.ref c.tb)
  mrw : mg "Rows" = some (.ref c.rw)
  mhd : mg "Heads" = some (.ref c.hd)
  mto : mg "TakeOff" = some (.ref c.to)
  mst : mg "Step" = some (.ref c.st)
  mma : mg "Machine" = some (.ref c.ma)
  bl : ∀ n ∈ (["len", "zip", "enumerate", "list", "tuple", "sorted", "range", "all", "int"] : List Str), mg n = none
  tkInit : InitAt K c.tk "Takings.__init__" sTkInit ["self", "machine", "marks"]
  tkStep : MethAt K c.tk "step_at" "Takings.step_at" sTkStep ["self", "index"]
  tkEntry : MethAt K c.tk "entry" "Takings.entry" sTkEntry ["self", "index", "state", "letter"]
  tkRead : MethAt K c.tk "read" "Takings.read" sTkRead ["self", "row"]
  tkMove : MethAt K c.tk "move" "Takings.move" sTkMove ["self", "pair"]
  takings : DefAt K mg "takings_of" sTakings ["machine", "marks", "rows"]
  behind : DefAt K mg "head_behind" sBehind ["takings", "configuration", "descent"]
  walk : DefAt K mg "walk" sWalk ["takings", "head", "moves"]
  tbInit : InitAt K c.tb "Table.__init__" sTbInit ["self", "entries"]
  tbFrom : MethAt K c.tb "from_head" "Table.from_head" sTbFrom ["self", "state", "letter"]
  tbClosed : MethAt K c.tb "is_closed" "Table.is_closed" sTbClosed ["self", "machine", "marks"]
  tbEdges : MethAt K c.tb "edges_of" "Table.edges_of" sTbEdges ["self", "step", "is_marked"]
  isHead : DefAt K mg "is_head" sIsHead ["machine", "state", "letter"]
  entries : DefAt K mg "are_entries" sEntries ["machine", "entries"]
  ranks : DefAt K mg "are_ranks" sRanks ["machine", "ranks"]
  falls : DefAt K mg "falls" sFalls ["machine", "marks", "table", "by_head"]
  starts : DefAt K mg "has_starts" sStarts ["table", "by_head", "configuration"]
  ever : DefAt K mg "shows_ever" sEver ["machine", "marks", "configuration", "paper"]
  not_ : DefAt K mg "shows_not" sNot ["machine", "marks", "configuration", "paper"]
  takes : DefAt K mg "takes_endless" sTakes ["machine", "marked", "configuration", "verdict", "paper"]
  rwInit : InitAt K c.rw "Rows.__init__" sRwInit ["self", "found"]
  rwMissing : MethAt K c.rw "missing" "Rows.missing" sRwMissing ["self", "key"]
  rwAdd : MethAt K c.rw "add" "Rows.add" sRwAdd ["self", "key", "with_items"]
  hdInit : InitAt K c.hd "Heads.__init__" sHdInit ["self", "machine", "table"]
  hdPut : MethAt K c.hd "put" "Heads.put" sHdPut ["self", "step", "move"]
  hdMoves : MethAt K c.hd "moves_from" "Heads.moves_from" sHdMoves ["self", "head"]
  hdReached : MethAt K c.hd "reached" "Heads.reached" sHdReached ["self", "heads"]
  wayTo : DefAt K mg "way_to" sWayTo ["found", "head"]
  toInit : InitAt K c.to "TakeOff.__init__" sToInit ["self", "machine", "marked"]
  toEntries : MethAt K c.to "entries" "TakeOff.entries" sToEntries ["self", "state", "letter"]
  toUse : MethAt K c.to "use" "TakeOff.use" sToUse ["self", "index"]
  descents : DefAt K mg "descents" sDescents ["table", "configuration"]
  ringAt : DefAt K mg "ring_at" sRingAt ["heads", "found"]
  toldRanks : DefAt K mg "told_ranks" sToldRanks ["heads", "found"]
  toldMoves : DefAt K mg "told_moves" sToldMoves ["rows", "moves"]
  endless : DefAt K mg "endless" sEndless ["machine", "marked", "configuration"]
  stInit : InitD K c.st "Step.__init__" sStInit ["self", "state", "letter", "goal", "laid", "weight"]
  fits : DefAt K mg "fits" sFits ["step", "states", "letters"]
  maInit : InitAt K c.ma "Machine.__init__" sMaInit ["self", "states", "letters", "steps"]
  numbers : DefAt K mg "_law_numbers" sNumbers ["_law_script", "_law_count"]
  rows : DefAt K mg "_law_rows" sRows ["_law_numbers_here", "_law_place", "_law_states", "_law_letters", "_law_count"]
  machine : DefAt K mg "_law_machine" sMachine ["_law_numbers_here", "_law_place"]
  made : DefAt K mg "_law_made" sMade ["_law_parts"]
  conf : DefAt K mg "_law_configuration" sConf ["_law_number", "_law_states", "_law_letters", "_law_most"]
  marks : DefAt K mg "_law_marks" sMarks ["_law_number", "_law_count"]
theorem Txt.b {K : PySem.W.Frag} {mg : Str → Option Value} {c : Cs} (T : Txt K mg c) {n : Str} (h : n ∈ (["len", "zip", "enumerate", "list", "tuple", "sorted", "range", "all", "int"] : List Str) := by simp) : mg n = none := T.bl n h
end PW
end

section
set_option Elab.async false
set_option maxRecDepth 100000
set_option maxHeartbeats 4000000
set_option linter.all false
/-! Walks: is_head, Takings. -/
namespace PW
open PySem L2 PX PR
section
variable {P : Program} {w : World} {K : PySem.W.Frag} {mg : Str → Option Value} {base : Heap} {c : Cs}
def spIsHead (c : Cs) : Sp := fun vs H Q _ => ∃ (M : Mach) (m : V) (s l : Int), vs = [m, .int s, .int l] ∧ machR c H M m ∧ Q (.bl (isHeadJ M s l)) H
theorem sc_isHead : FnScope ["machine", "state", "letter"] ["machine", "state", "letter"] (defScope sIsHead) := ⟨rfl, rfl, rfl, by decide +kernel, rfl, by decide +kernel, by decide +kernel⟩
theorem ok_isHead (T : Txt K mg c) {f : Addr} {fd : FuncData} (F : Fun K "is_head" "is_head" sIsHead f fd) : FnOk P w K mg base CX0 1 f fd ["machine", "state", "letter"] (spIsHead c) := by
  refine F.ok sc_isHead (fun vs H Q E h => ?_) (fun cdv A outer s H vs Q E hr h => ?_)
  · obtain ⟨M, m, s, l, rfl, _⟩ := h
    rfl
  · obtain ⟨M, m, s, l, rfl, ⟨a, dx, t, rfl, hm, _⟩, k⟩ := h
    refine ⟨_, pss_one (ps_ret (pe_and (pe_chain op_le op_lt pe_int (pv 1) (pe_fld (pv 0) rfl)) (pe_one (pe_chain op_le op_lt pe_int (pv 2) (pe_fld (pv 0) rfl))))), ?_⟩
    exact s_ret (v_and (v_chain val_c (val_var rfl) (val_fld (val_var rfl) hm T.ma.cl (T.ma.no _ (by simp)) (machF_states M t))) fun _ => v_chain val_c (val_var rfl) (val_fld (val_var rfl) hm T.ma.cl (T.ma.no _ (by simp)) (machF_letters M t))) k
/-! ### Takings -/
def takF (ts md l : Addr) : List (Str × V) := putF "entries" (.ref l) (putF "marks" (.ref md) (putF "steps" (.ref ts) []))
theorem ne_es : ¬ (("steps" : Str) = "entries") := by decide +kernel
theorem ne_em : ¬ (("marks" : Str) = "entries") := by decide +kernel
theorem ne_ms : ¬ (("steps" : Str) = "marks") := by decide +kernel
theorem takF_steps (ts md l : Addr) : (takF ts md l).lookup ("steps" : Str) = some (.ref ts) := lk_miss ne_es (lk_miss ne_ms lk_hit)
theorem takF_marks (ts md l : Addr) : (takF ts md l).lookup ("marks" : Str) = some (.ref md) := lk_miss ne_em lk_hit
theorem takF_entries (ts md l : Addr) : (takF ts md l).lookup ("entries" : Str) = some (.ref l) := lk_hit
theorem takF_no (ts md l : Addr) {x : Str} (h1 : ¬ x = "entries") (h2 : ¬ x = "marks") (h3 : ¬ x = "steps") : (takF ts md l).lookup x = none := lk_miss h1 (lk_miss h2 (lk_miss h3 rfl))
/-- what never changes of a Takings: a stands, its steps, its marks -/
structure TkFix (c : Cs) (M : Mach) (mk : Int → Bool) (H : Hp) (a l : Addr) : Prop where
  ob : ∃ dx ts md, H a = some (.ins c.tk dx (takF ts md l)) ∧ StepsAt c M H ts ∧ MarksAt mk H md
def TkAt (c : Cs) (M : Mach) (mk : Int → Bool) (H : Hp) (a l : Addr) (es : List Ent) : Prop := TkFix c M mk H a l ∧ ∃ ys, H l = some (.lst ys) ∧ All entR H es ys
theorem TkFix.mono {M : Mach} {mk : Int → Bool} {H H' : Hp} {a l : Addr} (e : Le H H') (h : TkFix c M mk H a l) : TkFix c M mk H' a l :=
  let ⟨dx, ts, md, h1, h2, h3⟩ := h.ob; ⟨dx, ts, md, e.ins h1, h2.mono e, h3.mono e⟩
theorem TkAt.mono {M : Mach} {mk : Int → Bool} {H H' : Hp} {a l : Addr} {es : List Ent} (e : Le H H') (h : TkAt c M mk H a l es) : TkAt c M mk H' a l es :=
  let ⟨h1, ys, h2, h3⟩ := h; ⟨h1.mono e, ys, e.lst h2, h3.mono keyR_m e.tp⟩
theorem TkFix.monoX {M : Mach} {mk : Int → Bool} {H H' : Hp} {a l : Addr} (e : Lx H H') (h : TkFix c M mk H a l) : TkFix c M mk H' a l :=
  let ⟨dx, ts, md, h1, h2, h3⟩ := h.ob; ⟨dx, ts, md, e.ins h1, h2.monoX e, h3.monoX e⟩
def spTkInit (c : Cs) : Sp := fun vs H Q _ => ∃ (H0 : Hp) (M : Mach) (mk : Int → Bool) (p dx md : Addr) (m : V), vs = [.ref p, m, .ref md] ∧ Same H0 H ∧ H0 p = none ∧ machR c H0 M m ∧ MarksAt mk H0 md ∧ H p = some (.ins c.tk dx []) ∧
  ∀ (H' : Hp) (l : Addr), Same H0 H' → TkAt c M mk H' p l [] → H0 l = none → Q .non H'
theorem sc_tkInit : FnScope ["self", "machine", "marks"] ["self", "machine", "marks"] (defScope sTkInit) := ⟨rfl, rfl, rfl, by decide +kernel, rfl, by decide +kernel, by decide +kernel⟩
theorem ok_tkInit (T : Txt K mg c) {f : Addr} {fd : FuncData} (F : Fun K "__init__" "Takings.__init__" sTkInit f fd) : FnOk P w K mg base CX0 1 f fd ["self", "machine", "marks"] (spTkInit c) := by
  refine F.ok sc_tkInit (fun vs H Q E h => ?_) (fun cdv A outer s H vs Q E hr h => ?_)
  · obtain ⟨H0, M, mk, p, dx, md, m, rfl, _⟩ := h
    rfl
  · obtain ⟨H0, M, mk, p, dx, md, m, rfl, s0, p0, ⟨a, dm, t, rfl, hm, hst⟩, hmk, hp, k⟩ := h
    refine ⟨_, pss_cons (ps_fld (pv 0) (pe_fld (pv 1) rfl) rfl) (pss_cons (ps_fld (pv 0) (pv 2) rfl) (pss_one (ps_fld (pv 0) (pe_lst pa_nil) rfl))), ?_⟩
    refine ⟨_, rfl, a, c.ma, dm, _, _, rfl, s0 _ _ hm, T.ma.cl, T.ma.no _ (by simp), machF_steps M t, _, rfl, p, c.tk, dx, [], rfl, hp, T.tk.cl, T.tk.no _ (by simp), (by decide), ?_⟩
    refine ⟨_, rfl, _, rfl, p, c.tk, dx, _, rfl, upd_same, T.tk.cl, T.tk.no _ (by simp), few (len_put (n := 0) (Nat.le_refl _)) (by decide), ?_⟩
    rw [upd_upd]
    refine ⟨Nat.zero_le _, fun l hl => ?_⟩
    have nlp : l ≠ p := fun e => by rw [e, upd_same] at hl; cases hl
    have hl0 : H0 l = none := s0.free (by rw [upd_ne nlp] at hl; exact hl)
    refine ⟨_, rfl, p, c.tk, dx, _, rfl, by rw [upd_ne nlp.symm, upd_same], T.tk.cl, T.tk.no _ (by simp), few (len_put (len_put (n := 0) (Nat.le_refl _))) (by decide), ?_⟩
    have sm : Same H0 (upd (upd (upd H p (.ins c.tk dx (putF "marks" (.ref md) (putF "steps" (.ref t) [])))) l (.lst [])) p (.ins c.tk dx (takF t md l))) := sm_own (sm_own (sm_own s0 p0) hl0) p0
    exact k _ l sm ⟨⟨dx, t, md, upd_same, hst.mono (.same sm), hmk.mono (.same sm)⟩, [], by rw [upd_ne nlp, upd_same], .nil⟩ hl0
def spTkStep (c : Cs) : Sp := fun vs H Q _ => ∃ (M : Mach) (mk : Int → Bool) (a l : Addr) (i : Int), vs = [.ref a, .int i] ∧ TkFix c M mk H a l ∧ ∀ v, optR (fun H p v => stepR c H p v) H (stepJ M i) v → Q v H
theorem sc_tkStep : FnScope ["self", "index"] ["self", "index"] (defScope sTkStep) := ⟨rfl, rfl, rfl, by decide +kernel, rfl, by decide +kernel, by decide +kernel⟩
theorem atI_at {xs : List V} {i : Int} {v : V} (h0 : 0 ≤ i) (h : xs[i.toNat]? = some v) : atI xs i = some v := at_of (j := i.toNat) (by omega) h
theorem ok_tkStep (T : Txt K mg c) {f : Addr} {fd : FuncData} (F : Fun K "step_at" "Takings.step_at" sTkStep f fd) : FnOk P w K mg base CX0 1 f fd ["self", "index"] (spTkStep c) := by
  refine F.ok sc_tkStep (fun vs H Q E h => ?_) (fun cdv A outer s H vs Q E hr h => ?_)
  · obtain ⟨M, mk, a, l, i, rfl, _⟩ := h
    rfl
  · obtain ⟨M, mk, a, l, i, rfl, ⟨dx, ts, md, h1, ⟨xs, h2, h3⟩, h4⟩, k⟩ := h
    refine ⟨_, pss_cons (ps_if (pt_chain op_le op_lt pe_int (pv 1) (pe_callB call_len_seq (by rfl) T.b PySem.boot_len (pa_cons (pe_fld (pv 0) rfl) pa_nil))) (pss_one (ps_ret (pe_ix ix_tup (pe_fld (pv 0) rfl) (pv 1) (fun _ _ => rfl)))) pss_nil) (pss_one (ps_ret pe_non)), ?_⟩
    have vst : ∀ {σ : L2.St}, σ[0]? = some (some (.ref a)) → Val (tFld K (tVar 0) "steps") σ H (.ref ts) := fun e => val_fld (val_var e) h1 T.tk.cl (T.tk.no _ (by simp)) (takF_steps _ _ _)
    refine q_when (b := decide (0 ≤ i ∧ i < (xs.length : Int))) (a_test (v_chain val_c (val_var rfl) (v_len (vst rfl) (.inr (SqT.of h2))))) (fun hb => ?_) (fun hb => ?_)
    · obtain ⟨b1, b2⟩ := of_decide_eq_true hb
      obtain ⟨x, hx⟩ : ∃ x, xs[i.toNat]? = some x := ⟨_, List.getElem?_eq_getElem (by omega)⟩
      obtain ⟨st, e1, e2⟩ := h3.get' hx
      refine s_ret (v_ixT (vst rfl) (val_var rfl) h2 (atI_at b1 hx)) (k _ ?_)
      have : stepJ M i = some st := by unfold stepJ; rw [if_pos ⟨b1, by rw [h3.len]; exact b2⟩]; exact e1
      rw [this]
      exact e2
    · refine s_ret val_c (k _ ?_)
      have : stepJ M i = none := by unfold stepJ; rw [if_neg]; rw [h3.len]; exact of_decide_eq_false hb
      rw [this]
      exact rfl
def spTkEntry (c : Cs) : Sp := fun vs H Q _ => ∃ (M : Mach) (mk : Int → Bool) (a lst : Addr) (es : List Ent) (i s l : Int), vs = [.ref a, .int i, .int s, .int l] ∧ TkAt c M mk H a lst es ∧ ∀ v, optR entR H (entJ es i s l) v → Q v H
theorem sc_tkEntry : FnScope ["self", "index", "state", "letter", "found"] ["self", "index", "state", "letter"] (defScope sTkEntry) := ⟨rfl, rfl, rfl, by decide +kernel, rfl, by decide +kernel, by decide +kernel⟩
theorem dec_V {i j : Int} : decide (V.int i = V.int j) = decide (i = j) := by
  by_cases h : i = j
  · rw [h]; simp
  · simp [h]
theorem ok_tkEntry (T : Txt K mg c) {f : Addr} {fd : FuncData} (F : Fun K "entry" "Takings.entry" sTkEntry f fd) : FnOk P w K mg base CX0 1 f fd ["self", "index", "state", "letter"] (spTkEntry c) := by
  refine F.ok sc_tkEntry (fun vs H Q E h => ?_) (fun cdv A outer s H vs Q E hr h => ?_)
  · obtain ⟨M, mk, a, lst, es, i, s, l, rfl, _⟩ := h
    rfl
  · obtain ⟨M, mk, a, lst, es, i, s, l, rfl, ⟨⟨dx, ts, md, h1, _, _⟩, ys, h2, h3⟩, k⟩ := h
    refine ⟨_, pss_cons (ps_if (pt_not (pt_chain op_le op_lt pe_int (pv 1) (pe_callB call_len_seq (by rfl) T.b PySem.boot_len (pa_cons (pe_fld (pv 0) rfl) pa_nil)))) (pss_one (ps_ret pe_non)) pss_nil)
      (pss_cons (ps_set (i := 4) sc_tkEntry.nd rfl (.inl rfl) (pe_ix ix_list (pe_fld (pv 0) rfl) (pv 1) (fun _ _ => rfl)))
      (pss_cons (ps_if (PW.pt (pw_or (pt_cmpR op_ne (pe_ix ix_tup (pv 4) pe_int (fun _ _ => rfl)) (pv 2) (nomark _)) (pw_or1 (pt_cmpR op_ne (pe_ix ix_tup (pv 4) pe_int (fun _ _ => rfl)) (pv 3) (nomark _))))) (pss_one (ps_ret pe_non)) pss_nil)
      (pss_one (ps_ret (pv 4))))), ?_⟩
    have vst : ∀ {σ : L2.St}, σ[0]? = some (some (.ref a)) → Val (tFld K (tVar 0) "entries") σ H (.ref lst) := fun e => val_fld (val_var e) h1 T.tk.cl (T.tk.no _ (by simp)) (takF_entries _ _ _)
    refine q_when (b := !decide (0 ≤ i ∧ i < (ys.length : Int))) (a_not (a_test (v_chain val_c (val_var rfl) (v_len (vst rfl) (.inl (SqL.of h2)))))) (fun hb => ?_) (fun hb => ?_)
    · refine s_ret val_c (k _ ?_)
      have hb' : ¬ (0 ≤ i ∧ i < (ys.length : Int)) := fun hh => by rw [decide_eq_true hh] at hb; cases hb
      have : entJ es i s l = none := by unfold entJ; rw [if_neg]; rw [h3.len]; exact hb'
      rw [this]
      exact rfl
    · have hb' : 0 ≤ i ∧ i < (ys.length : Int) := by simpa using hb
      obtain ⟨b1, b2⟩ := hb'
      obtain ⟨x, hx⟩ : ∃ x, ys[i.toNat]? = some x := ⟨_, List.getElem?_eq_getElem (by omega)⟩
      obtain ⟨e, e1, t, rfl, e2⟩ := h3.get' hx
      have ej : entJ es i s l = if e.s = s ∧ e.l = l then some e else none := by unfold entJ; rw [if_pos ⟨b1, by rw [h3.len]; exact b2⟩, e1]
      refine q_set (v_ixL (vst rfl) (val_var rfl) h2 (atI_at b1 hx)) ?_
      refine q_when (b := (!decide (V.int e.s = V.int s)) || !decide (V.int e.l = V.int l)) (a_or (a_test (v_ne (v_ixT (val_var rfl) val_c e2 (atI_nat (j := 0) rfl)) (val_var rfl) rfl)) fun _ => a_test (v_ne (v_ixT (val_var rfl) val_c e2 (atI_nat (j := 1) rfl)) (val_var rfl) rfl)) (fun hb => ?_) (fun hb => ?_)
      · refine s_ret val_c (k _ ?_)
        rw [ej, if_neg]
        · exact rfl
        · rintro ⟨rfl, rfl⟩
          simp at hb
      · refine s_ret (val_var rfl) (k _ ?_)
        have hb2 : e.s = s ∧ e.l = l := by simpa [Bool.or_eq_false_iff] using hb
        rw [ej, if_pos hb2]
        exact ⟨t, rfl, e2⟩
end
end PW
end

section
set_option Elab.async false
set_option maxRecDepth 100000
set_option maxHeartbeats 4000000
set_option linter.all false
/-! Walks: Takings.read, Takings.move. -/
namespace PW
open PySem L2 PX PR
section
variable {P : Program} {w : World} {K : PySem.W.Frag} {mg : Str → Option Value} {base : Heap} {c : Cs}
/-- the heap behind a row that was read: the list at l alone is another -/
def ReadTo (H : Hp) (l : Addr) (o : Option (List Ent)) (v : V) (H' : Hp) : Prop := match o with
  | none => v = .bl false ∧ Same H H'
  | some es => v = .bl true ∧ (∀ b o, H b = some o → b ≠ l → H' b = some o) ∧ ∃ ys, H' l = some (.lst ys) ∧ All entR H' es ys
def spTkRead (c : Cs) : Sp := fun vs H Q _ => ∃ (M : Mach) (mk : Int → Bool) (a l : Addr) (es : List Ent) (r : V) (row : RowJ), vs = [.ref a, r] ∧ TkAt c M mk H a l es ∧ rowR H row r ∧ es.length < 100000 ∧
  ∀ v H', ReadTo H l (readJ M mk es row) v H' → Q v H'
theorem sc_tkRead : FnScope ["self", "row", "index", "parts", "step", "state", "flag", "letter", "part", "found"] ["self", "row"] (defScope sTkRead) := ⟨rfl, rfl, rfl, by decide +kernel, rfl, by decide +kernel, by decide +kernel⟩
theorem big5 {n : Nat} (h : n < 100000) : n < sizeLine := Nat.lt_of_lt_of_le h (by decide)
theorem big5' {n : Nat} (h : n ≤ 100000) : n ≤ sizeLine := Nat.le_trans h (by decide)
theorem ne_non {a : Addr} : decide (V.ref a = V.non) = false := decide_eq_false fun e => by cases e
theorem ok_tkRead (T : Txt K mg c) {f : Addr} {fd : FuncData} (F : Fun K "read" "Takings.read" sTkRead f fd) : FnOk P w K mg base CX0 2 f fd ["self", "row"] (spTkRead c) := by
  obtain ⟨f1, fd1, F1, b1, m1⟩ := T.tkStep
  obtain ⟨f2, fd2, F2, b2, m2⟩ := T.tkEntry
  have G1 : FnOk P w K mg base CX0 1 f1 fd1 ["self", "index"] (spTkStep c) := ok_tkStep T F1
  have G2 : FnOk P w K mg base CX0 1 f2 fd2 ["self", "index", "state", "letter"] (spTkEntry c) := ok_tkEntry T F2
  refine F.ok sc_tkRead (fun vs H Q E h => ?_) (fun cdv A outer s H vs Q E hr h => ?_)
  · obtain ⟨M, mk, a, l, es, r, row, rfl, _⟩ := h
    rfl
  · obtain ⟨M, mk, a, l, es, r, row, rfl, tk, ⟨rt, x, y, rfl, hrt, rx, pt, ps, ry, hpt, hps⟩, hlen, k⟩ := h
    cases rx
    cases ry
    have hu := hu_of hr
    refine ⟨_, (pss_cons (ps_asg (pv 1) (pg_tup rfl (pgs_cons (pg_name (i := 2) sc_tkRead.nd rfl (by first | exact Or.inl rfl | exact Or.inr rfl)) (pgs_cons (pg_name (i := 3) sc_tkRead.nd rfl (by first | exact Or.inl rfl | exact Or.inr rfl)) pgs_nil))))
      (pss_cons (ps_set (i := 4) sc_tkRead.nd rfl (by first | exact Or.inl rfl | exact Or.inr rfl) (pe_meth (pv 0) T.tk.cl m1 G1 hr b1 .nil pass0 (pa_cons (pv 2) pa_nil)))
      (pss_cons (ps_if (PW.pt (pw_or (pt_cmpR op_isN (pv 4) pe_non (nomark _)) (pw_or1 (pt_cmpR op_ne (pe_callB call_len_seq (by rfl) T.b PySem.boot_len (pa_cons (pv 3) pa_nil)) (pe_callB call_len_seq (by rfl) T.b PySem.boot_len (pa_cons (pe_fld (pv 4) rfl) pa_nil)) (nomark _)))))
          (pss_one (ps_ret pe_bl))
          pss_nil)
      (pss_cons (ps_set (i := 5) sc_tkRead.nd rfl (by first | exact Or.inl rfl | exact Or.inr rfl) (pe_fld (pv 4) rfl))
      (pss_cons (ps_set (i := 6) sc_tkRead.nd rfl (by first | exact Or.inl rfl | exact Or.inr rfl) (pe_cmp (pc_din hu (pv 2) (pe_fld (pv 0) rfl)) (by rfl)))
      (pss_cons (ps_for PassesOwn.never rfl (RZ.pi_zipA (by rfl) T.b (pa_cons (pe_fld (pv 4) rfl) (pa_cons (pv 3) pa_nil))) (pg_tup rfl (pgs_cons (pg_name (i := 7) sc_tkRead.nd rfl (by first | exact Or.inl rfl | exact Or.inr rfl)) (pgs_cons (pg_name (i := 8) sc_tkRead.nd rfl (by first | exact Or.inl rfl | exact Or.inr rfl)) pgs_nil)))
          (pss_cons (ps_set (i := 9) sc_tkRead.nd rfl (by first | exact Or.inl rfl | exact Or.inr rfl) (pe_meth (pv 0) T.tk.cl m2 G2 hr b2 .nil pass0 (pa_cons (pv 8) (pa_cons (pv 5) (pa_cons (pv 7) pa_nil)))))
            (pss_cons (ps_if (pt_cmpR op_isN (pv 9) pe_non (nomark _))
                (pss_one (ps_ret pe_bl))
                pss_nil)
            (pss_cons (ps_set (i := 5) sc_tkRead.nd rfl (by first | exact Or.inl rfl | exact Or.inr rfl) (pe_ix ix_tup (pv 9) pe_int (fun _ _ => rfl)))
            (pss_one (ps_set (i := 6) sc_tkRead.nd rfl (by first | exact Or.inl rfl | exact Or.inr rfl) (pe_or (pv 6) (pe_one (pe_ix ix_tup (pv 9) pe_int (fun _ _ => rfl))))))))))
      (pss_cons (ps_expr (pe_bm PySem.F.plainAttrs_list PySem.F.slot_list_append PySem.F.type_list_append mt_append (pe_fld (pv 0) rfl) (pa_cons (pe_tup (pa_cons (pe_fld (pv 4) rfl) (pa_cons (pe_fld (pv 4) rfl) (pa_cons (pv 5) (pa_cons (pv 6) pa_nil))))) pa_nil)))
      (pss_one (ps_ret pe_bl))))))))), ?_⟩
    have hps' := all_ints hps
    subst hps'
    obtain ⟨⟨dx, ts, md, h1, hst, hmk⟩, ys, h2, h3⟩ := id tk
    refine ⟨_, rfl, g_two hrt ?_⟩
    -- step = self.step_at(index)
    refine ⟨_, rfl, a, dx, _, rfl, h1, takF_no _ _ _ (by decide +kernel) (by decide +kernel) (by decide +kernel), _, rfl, M, mk, a, l, _, rfl, tk.1, fun v hv => ?_⟩
    cases e1 : stepJ M row.1 with
    | none =>
      rw [e1] at hv
      cases hv
      refine g_name ?_
      with_reducible conv => whnf
      refine q_when (b := true) (a_or (a := true) (b := false) (a_test (v_isN1 (val_var rfl))) fun z => by cases z) (fun _ => s_ret val_c (k _ _ ?_)) (fun z => by cases z)
      have : readJ M mk es row = none := by unfold readJ; rw [e1]
      rw [this]
      exact ⟨rfl, Same.refl H⟩
    | some st =>
      rw [e1] at hv
      obtain ⟨sa, sd, tl, rfl, hsa, htl⟩ := hv
      have fl : ∀ {σ : L2.St} {H' : Hp} {fn : Str} {v : V}, Same H H' → σ[4]? = some (some (.ref sa)) → fn ∈ (["state", "letter", "goal", "laid", "weight"] : List Str) → (stepF st tl).lookup fn = some v → Val (tFld K (tVar 4) fn) σ H' v := fun sm e hm hl => val_fld (val_var e) (sm _ _ hsa) T.st.cl (T.st.no _ hm) hl
      refine g_name ?_
      with_reducible conv => whnf
      refine q_when (b := false || !decide (V.int ((row.2.map V.int).length : Nat) = V.int ((st.laid.map V.int).length : Nat))) (a_or (a := false) (a_test (v_isN0 (val_var rfl))) fun _ => a_test (v_ne (v_len (val_var rfl) (.inr (SqT.of hpt))) (v_len (fl (Same.refl H) rfl (by simp) (stepF_laid _ _)) (.inr (SqT.of htl))) rfl)) (fun hb => ?_) (fun hb => ?_)
      · refine s_ret val_c (k _ _ ?_)
        have : readJ M mk es row = none := by
          unfold readJ
          rw [e1]
          simp only
          rw [if_pos]
          intro z
          simp [dec_V, z] at hb
        rw [this]
        exact ⟨rfl, Same.refl H⟩
      · have hl : row.2.length = st.laid.length := by
          have z : ((row.2.length : Nat) : Int) = (st.laid.length : Nat) := by simpa [dec_V] using hb
          omega
        have er : readJ M mk es row = match partsJ es (st.laid.zip row.2) st.g (mk row.1) with | none => none | some (s, f) => some (es ++ [⟨st.s, st.l, s, f⟩]) := by
          unfold readJ
          rw [e1]
          simp only
          rw [if_neg (by simp [hl])]
          try rfl
        refine q_set (fl (Same.refl H) rfl (by simp) (stepF_goal _ _)) ?_
        refine q_set (v_in (val_var rfl) (val_fld (val_var rfl) h1 T.tk.cl (T.tk.no _ (by simp)) (takF_marks _ _ _)) hmk) ?_
        -- for letter, part in zip(step.laid, parts)
        refine q_zip (fl (Same.refl H) rfl (by simp) (stepF_laid _ _)) (val_var rfl) (SqT.of htl) (SqT.of hpt) (fun i σ H' => Same H H' ∧ ∃ (s : Int) (fg : Bool) (o7 o8 o9 : Option V), σ = [some (.ref a), some (.ref rt), some (.int row.1), some (.ref pt), some (.ref sa), some (.int s), some (.bl fg), o7, o8, o9] ∧
          partsJ es (st.laid.zip row.2) st.g (mk row.1) = partsJ es ((st.laid.zip row.2).drop i) s fg)
          ⟨Same.refl H, st.g, mk row.1, none, none, none, rfl, rfl⟩ (fun i σ H' p => ⟨SqT.of (p.1 _ _ htl), SqT.of (p.1 _ _ hpt)⟩) ?_ ?_
        · rintro i x y TT σ H' hx hy ⟨sm, s, fg, o7, o8, o9, rfl, ep⟩ hT
          obtain ⟨li, hli, rfl⟩ : ∃ n, st.laid[i]? = some n ∧ x = V.int n := by
            rw [List.getElem?_map] at hx
            cases q : st.laid[i]? with
            | none => rw [q] at hx; cases hx
            | some n => rw [q] at hx; exact ⟨n, rfl, (Option.some.inj hx).symm⟩
          obtain ⟨pi, hpi, rfl⟩ : ∃ n, row.2[i]? = some n ∧ y = V.int n := by
            rw [List.getElem?_map] at hy
            cases q : row.2[i]? with
            | none => rw [q] at hy; cases hy
            | some n => rw [q] at hy; exact ⟨n, rfl, (Option.some.inj hy).symm⟩
          have hz : (st.laid.zip row.2)[i]? = some (li, pi) := by rw [List.getElem?_zip_eq_some]; exact ⟨hli, hpi⟩
          have hd : (st.laid.zip row.2).drop i = (li, pi) :: (st.laid.zip row.2).drop (i + 1) := by
            obtain ⟨hlt, e⟩ := List.getElem?_eq_some_iff.mp hz
            rw [List.drop_eq_getElem_cons hlt, e]
          have sm1 : Same H (upd H' TT (.tup [V.int li, V.int pi])) := sm_new sm hT
          refine g_two upd_same ?_
          refine ⟨_, rfl, a, dx, _, rfl, sm1 _ _ h1, takF_no _ _ _ (by decide +kernel) (by decide +kernel) (by decide +kernel), _, rfl, _, rfl, _, rfl, M, mk, a, l, es, pi, s, li, rfl, tk.mono (.same sm1), fun v hv => ?_⟩
          rw [hd] at ep
          simp only [partsJ] at ep
          cases e2 : entJ es pi s li with
          | none =>
            rw [e2] at hv ep
            cases hv
            refine g_name ?_
            with_reducible conv => whnf
            refine q_when (b := true) (a_test (v_isN1 (val_var rfl))) (fun _ => s_ret val_c (k _ _ ?_)) (fun z => by cases z)
            rw [er, ep]
            exact ⟨rfl, sm1⟩
          | some e =>
            rw [e2] at hv ep
            obtain ⟨ea, rfl, hea⟩ := hv
            refine g_name ?_
            with_reducible conv => whnf
            refine q_when (b := false) (a_test (v_isN0 (val_var rfl))) (fun z => by cases z) (fun _ => ?_)
            refine q_set (v_ixT (val_var rfl) val_c hea (atI_nat (j := 2) rfl)) ?_
            refine s_set (v_or (val_var rfl) fun _ => v_ixT (val_var rfl) val_c hea (atI_nat (j := 3) rfl)) ?_
            exact ⟨sm1, e.g, fg || e.f, _, _, _, rfl, ep⟩
        · rintro σ H' ⟨sm, s, fg, o7, o8, o9, rfl, ep⟩
          have hm : min (st.laid.map V.int).length (row.2.map V.int).length = (st.laid.zip row.2).length := by simp [List.length_zip]
          rw [hm, List.drop_length] at ep
          simp only [partsJ] at ep
          have er2 : readJ M mk es row = some (es ++ [⟨st.s, st.l, s, fg⟩]) := by rw [er, ep]
          -- self.entries.append((..))
          refine q_append (val_fld (val_var rfl) (sm _ _ h1) T.tk.cl (T.tk.no _ (by simp)) (takF_entries _ _ _)) (sm _ _ h2) (t_tup (va_cons (fl sm rfl (by simp) (stepF_state _ _)) (va_cons (fl sm rfl (by simp) (stepF_letter _ _)) (va_cons (val_var rfl) (va_cons (val_var rfl) va_nil)))) fun p hp => ?_)
          have nlp : l ≠ p := ne_of_none (sm _ _ h2) hp
          refine ⟨ys, by rw [upd_ne nlp]; exact sm _ _ h2, big5 (by rw [← h3.len]; exact hlen), ?_⟩
          refine s_ret val_c (k _ _ ?_)
          rw [er2]
          have tp : Tp H (upd (upd H' p (.tup [.int st.s, .int st.l, .int s, .bl fg])) l (.lst (ys ++ [.ref p]))) := (Tp.same (sm_new sm hp)).trans (.lst (ys := ys) (by rw [upd_ne nlp]; exact sm _ _ h2))
          refine ⟨rfl, fun b o e hb => by rw [upd_ne hb]; exact sm_new sm hp _ _ e, _, upd_same, (h3.mono keyR_m tp).snoc ⟨p, rfl, ?_⟩⟩
          rw [upd_ne nlp.symm, upd_same]
          rfl
end
end PW
end

section
set_option Elab.async false
set_option maxRecDepth 100000
set_option maxHeartbeats 4000000
set_option linter.all false
/-! Walks: Takings.move, takings_of, head_behind, walk. -/
namespace PW
open PySem L2 PX PR
section
variable {P : Program} {w : World} {K : PySem.W.Frag} {mg : Str → Option Value} {base : Heap} {c : Cs}
abbrev Tri := Hd × Hd × Bool
def triR : Rp Tri := fun H t v => ∃ a x y, v = .ref a ∧ H a = some (.tup [x, y, .bl t.2.2]) ∧ hdR H t.1 x ∧ hdR H t.2.1 y
theorem triR_m : MonoT triR := ⟨fun e ⟨a, x, y, h1, h2, h3, h4⟩ => ⟨a, x, y, h1, e a _ h2, keyR_m.mono e h3, keyR_m.mono e h4⟩⟩
def spTkMove (c : Cs) : Sp := fun vs H Q _ => ∃ (M : Mach) (mk : Int → Bool) (a l : Addr) (es : List Ent) (r : V) (m : Mv), vs = [.ref a, r] ∧ TkAt c M mk H a l es ∧ mvR H m r ∧ ∀ v H', Same H H' → optR triR H' (moveJ M mk es m) v → Q v H'
theorem sc_tkMove : FnScope ["self", "pair", "index", "part", "step", "head", "found"] ["self", "pair"] (defScope sTkMove) := ⟨rfl, rfl, rfl, by decide +kernel, rfl, by decide +kernel, by decide +kernel⟩
theorem ok_tkMove (T : Txt K mg c) {f : Addr} {fd : FuncData} (F : Fun K "move" "Takings.move" sTkMove f fd) : FnOk P w K mg base CX0 2 f fd ["self", "pair"] (spTkMove c) := by
  obtain ⟨f1, fd1, F1, b1, m1⟩ := T.tkStep
  obtain ⟨f2, fd2, F2, b2, m2⟩ := T.tkEntry
  have G1 : FnOk P w K mg base CX0 1 f1 fd1 ["self", "index"] (spTkStep c) := ok_tkStep T F1
  have G2 : FnOk P w K mg base CX0 1 f2 fd2 ["self", "index", "state", "letter"] (spTkEntry c) := ok_tkEntry T F2
  refine F.ok sc_tkMove (fun vs H Q E h => ?_) (fun cdv A outer s H vs Q E hr h => ?_)
  · obtain ⟨M, mk, a, l, es, r, m, rfl, _⟩ := h
    rfl
  · obtain ⟨M, mk, a, l, es, r, m, rfl, tk, ⟨rt, x, y, rfl, hrt, rx, ry⟩, k⟩ := h
    cases rx
    have hu := hu_of hr
    refine ⟨_, (pss_cons (ps_asg (pv 1) (pg_tup rfl (pgs_cons (pg_name (i := 2) sc_tkMove.nd rfl (by first | exact Or.inl rfl | exact Or.inr rfl)) (pgs_cons (pg_name (i := 3) sc_tkMove.nd rfl (by first | exact Or.inl rfl | exact Or.inr rfl)) pgs_nil))))
      (pss_cons (ps_set (i := 4) sc_tkMove.nd rfl (by first | exact Or.inl rfl | exact Or.inr rfl) (pe_meth (pv 0) T.tk.cl m1 G1 hr b1 .nil pass0 (pa_cons (pv 2) pa_nil)))
      (pss_cons (ps_if (PW.pt (pw_or (pt_cmpR op_isN (pv 4) pe_non (nomark _)) (pw_or1 (pt_cmpR op_eq (pe_callB call_len_seq (by rfl) T.b PySem.boot_len (pa_cons (pe_fld (pv 4) rfl) pa_nil)) pe_int (nomark _)))))
          (pss_one (ps_ret pe_non))
          pss_nil)
      (pss_cons (ps_set (i := 5) sc_tkMove.nd rfl (by first | exact Or.inl rfl | exact Or.inr rfl) (pe_tup (pa_cons (pe_fld (pv 4) rfl) (pa_cons (pe_fld (pv 4) rfl) pa_nil))))
      (pss_cons (ps_if (pt_cmpR op_isN (pv 3) pe_non (nomark _))
          (pss_one (ps_ret (pe_tup (pa_cons (pv 5) (pa_cons (pe_tup (pa_cons (pe_fld (pv 4) rfl) (pa_cons (pe_ix ix_tup (pe_fld (pv 4) rfl) pe_int (fun _ _ => rfl)) pa_nil))) (pa_cons (pe_cmp (pc_din hu (pv 2) (pe_fld (pv 0) rfl)) (by rfl)) pa_nil))))))
          pss_nil)
      (pss_cons (ps_set (i := 6) sc_tkMove.nd rfl (by first | exact Or.inl rfl | exact Or.inr rfl) (pe_meth (pv 0) T.tk.cl m2 G2 hr b2 .nil pass0 (pa_cons (pv 3) (pa_cons (pe_fld (pv 4) rfl) (pa_cons (pe_ix ix_tup (pe_fld (pv 4) rfl) pe_int (fun _ _ => rfl)) pa_nil)))))
      (pss_cons (ps_if (PW.pt (pw_or (pt_cmpR op_isN (pv 6) pe_non (nomark _)) (pw_or1 (pt_cmpR op_ne (pe_callB call_len_seq (by rfl) T.b PySem.boot_len (pa_cons (pe_fld (pv 4) rfl) pa_nil)) pe_int (nomark _)))))
          (pss_one (ps_ret pe_non))
          pss_nil)
      (pss_one (ps_ret (pe_tup (pa_cons (pv 5) (pa_cons (pe_tup (pa_cons (pe_ix ix_tup (pv 6) pe_int (fun _ _ => rfl)) (pa_cons (pe_ix ix_tup (pe_fld (pv 4) rfl) pe_int (fun _ _ => rfl)) pa_nil))) (pa_cons (pe_or (pe_cmp (pc_din hu (pv 2) (pe_fld (pv 0) rfl)) (by rfl)) (pe_one (pe_ix ix_tup (pv 6) pe_int (fun _ _ => rfl)))) pa_nil))))))))))))), ?_⟩
    obtain ⟨⟨dx, ts, md, h1, hst, hmk⟩, ys, h2, h3⟩ := id tk
    refine ⟨_, rfl, g_two hrt ?_⟩
    refine ⟨_, rfl, a, dx, _, rfl, h1, takF_no _ _ _ (by decide +kernel) (by decide +kernel) (by decide +kernel), _, rfl, M, mk, a, l, _, rfl, tk.1, fun v hv => ?_⟩
    refine g_name ?_
    with_reducible conv => whnf
    cases e1 : stepJ M m.1 with
    | none =>
      rw [e1] at hv
      cases hv
      refine q_when (b := true) (a_or (a := true) (b := false) (a_test (v_isN1 (val_var rfl))) fun z => by cases z) (fun _ => s_ret val_c (k _ _ (Same.refl H) ?_)) (fun z => by cases z)
      have : moveJ M mk es m = none := by unfold moveJ; rw [e1]
      rw [this]
      exact rfl
    | some st =>
      rw [e1] at hv
      obtain ⟨sa, sd, tl, rfl, hsa, htl⟩ := hv
      have fl : ∀ {σ : L2.St} {H' : Hp} {fn : Str} {v : V}, Same H H' → σ[4]? = some (some (.ref sa)) → fn ∈ (["state", "letter", "goal", "laid", "weight"] : List Str) → (stepF st tl).lookup fn = some v → Val (tFld K (tVar 4) fn) σ H' v := fun sm e hm hl => val_fld (val_var e) (sm _ _ hsa) T.st.cl (T.st.no _ hm) hl
      refine q_when (b := false || decide (V.int ((st.laid.map V.int).length : Nat) = V.int 0)) (a_or (a := false) (a_test (v_isN0 (val_var rfl))) fun _ => a_test (v_eq (v_len (fl (Same.refl H) rfl (by simp) (stepF_laid _ _)) (.inr (SqT.of htl))) val_c rfl)) (fun hb => ?_) (fun hb => ?_)
      · refine s_ret val_c (k _ _ (Same.refl H) ?_)
        have hl : st.laid = [] := by
          have z : ((st.laid.length : Nat) : Int) = 0 := by simpa [dec_V] using hb
          exact List.length_eq_zero_iff.mp (by omega)
        have : moveJ M mk es m = none := by unfold moveJ; rw [e1]; simp only [hl]
        rw [this]
        exact rfl
      · obtain ⟨l0, lr, hl⟩ : ∃ a r, st.laid = a :: r := by
          cases q : st.laid with
          | nil => rw [q] at hb; simp at hb
          | cons a r => exact ⟨a, r, rfl⟩
        have htl' : H tl = some (.tup (V.int l0 :: lr.map V.int)) := by rw [htl, hl]; rfl
        -- head = (step.state, step.letter)
        refine q_asgT (va_cons (fl (Same.refl H) rfl (by simp) (stepF_state _ _)) (va_cons (fl (Same.refl H) rfl (by simp) (stepF_letter _ _)) va_nil)) fun p hp => ?_
        have s1 : Same H (upd H p (.tup [.int st.s, .int st.l])) := sm_up hp
        have hh : (upd H p (.tup [.int st.s, .int st.l])) p = some (.tup (DKey.vs ((st.s, st.l) : Hd))) := upd_same
        generalize hH1 : upd H p (.tup [.int st.s, .int st.l]) = H1 at s1 hh
        have vm : ∀ {σ : L2.St} {H' : Hp}, Same H H' → σ[0]? = some (some (.ref a)) → σ[2]? = some (some (.int m.1)) → Val (tDIn (tVar 2) (tFld K (tVar 0) "marks")) σ H' (.bl (mk m.1)) := fun sm e0 e2 =>
          v_in (val_var e2) (val_fld (val_var e0) (sm _ _ h1) T.tk.cl (T.tk.no _ (by simp)) (takF_marks _ _ _)) (hmk.mono (.same sm))
        have vl : ∀ {σ : L2.St} {H' : Hp}, Same H H' → σ[4]? = some (some (.ref sa)) → Val (tOp (rIxT K) (tFld K (tVar 4) "laid") (tC (.int 0))) σ H' (.int l0) := fun sm e4 =>
          v_ixT (fl sm e4 (by simp) (stepF_laid _ _)) val_c (sm _ _ htl') (atI_nat (j := 0) rfl)
        cases e2 : m.2 with
        | none =>
          have ry' : optR intR H m.2 y := ry
          rw [e2] at ry'
          cases ry'
          refine q_when (b := true) (a_test (v_isN1 (val_var rfl))) (fun _ => ?_) (fun z => by cases z)
          refine s_retE (t_tupE (v_cons (val_var rfl) (tcons_E (t_tup (va_cons (fl s1 rfl (by simp) (stepF_goal _ _)) (va_cons (vl s1 rfl) va_nil)) fun q hq => ?_))))
          have s2 := sm_new (o := .tup [.int st.g, .int l0]) s1 hq
          refine vm s2 rfl rfl _ ⟨by show 3 ≤ sizeLine; decide, fun q2 hq2 => k _ _ (sm_new s2 hq2) ?_⟩
          have : moveJ M mk es m = some ((st.s, st.l), (st.g, l0), mk m.1) := by unfold moveJ; rw [e1]; simp only [hl, e2]
          rw [this]
          refine ⟨q2, .ref p, .ref q, rfl, upd_same, ⟨p, rfl, ?_⟩, ⟨q, rfl, ?_⟩⟩
          · exact sm_up hq2 _ _ (sm_up hq _ _ hh)
          · exact sm_up hq2 _ _ upd_same
        | some pt =>
          have ry' : optR intR H m.2 y := ry
          rw [e2] at ry'
          cases ry'
          refine q_when (b := false) (a_test (by
            have : (false : Bool) = decide (V.int pt = V.non) := (decide_eq_false fun z => by cases z).symm
            rw [this]
            exact v_isN (val_var rfl))) (fun z => by cases z) (fun _ => ?_)
          refine ⟨_, rfl, a, dx, _, rfl, s1 _ _ h1, takF_no _ _ _ (by decide +kernel) (by decide +kernel) (by decide +kernel), _, rfl, ?_⟩
          refine fl s1 rfl (by simp) (stepF_goal _ _) _ (vl s1 rfl _ ⟨M, mk, a, l, es, pt, st.g, l0, rfl, tk.mono (.same s1), fun v hv => ?_⟩)
          refine g_name ?_
          with_reducible conv => whnf
          cases e3 : entJ es pt st.g l0 with
          | none =>
            rw [e3] at hv
            cases hv
            refine q_when (b := true) (a_or (a := true) (b := false) (a_test (v_isN1 (val_var rfl))) fun z => by cases z) (fun _ => s_ret val_c (k _ _ s1 ?_)) (fun z => by cases z)
            have : moveJ M mk es m = none := by unfold moveJ; rw [e1]; simp only [hl, e2, e3]
            rw [this]
            exact rfl
          | some e =>
            rw [e3] at hv
            obtain ⟨ea, rfl, hea⟩ := hv
            refine q_when (b := false || !decide (V.int ((st.laid.map V.int).length : Nat) = V.int 2)) (a_or (a := false) (a_test (v_isN0 (val_var rfl))) fun _ => a_test (v_ne (v_len (fl s1 rfl (by simp) (stepF_laid _ _)) (.inr (SqT.of (s1 _ _ htl)))) val_c rfl)) (fun hb => ?_) (fun hb => ?_)
            · refine s_ret val_c (k _ _ s1 ?_)
              have : moveJ M mk es m = none := by
                unfold moveJ
                rw [e1]
                simp only [hl, e2, e3]
                cases lr with
                | nil => rfl
                | cons b t =>
                  cases t with
                  | nil => rw [hl] at hb; simp at hb
                  | cons c t => rfl
              rw [this]
              exact rfl
            · obtain ⟨b, hlr⟩ : ∃ b, lr = [b] := by
                cases lr with
                | nil => rw [hl] at hb; simp at hb
                | cons b t =>
                  cases t with
                  | nil => exact ⟨b, rfl⟩
                  | cons c t =>
                    exfalso
                    have z : ((st.laid.length : Nat) : Int) = 2 := by simpa [dec_V] using hb
                    rw [hl] at z
                    simp at z
                    omega
              subst hlr
              refine s_retE (t_tupE (v_cons (val_var rfl) (tcons_E (t_tup (va_cons (v_ixT (val_var rfl) val_c hea (atI_nat (j := 2) rfl)) (va_cons (v_ixT (fl s1 rfl (by simp) (stepF_laid _ _)) val_c (s1 _ _ htl') (atI_nat (j := 1) rfl)) va_nil)) fun q hq => ?_))))
              have s2 := sm_new (o := .tup [.int e.g, .int b]) s1 hq
              refine v_or (vm s2 rfl rfl) (fun _ => v_ixT (val_var rfl) val_c (sm_up hq _ _ hea) (atI_nat (j := 3) rfl)) _ ⟨by show 3 ≤ sizeLine; decide, fun q2 hq2 => k _ _ (sm_new s2 hq2) ?_⟩
              have : moveJ M mk es m = some ((st.s, st.l), (e.g, b), mk m.1 || e.f) := by unfold moveJ; rw [e1]; simp only [hl, e2, e3]
              rw [this]
              exact ⟨q2, .ref p, .ref q, rfl, upd_same, ⟨p, rfl, sm_up hq2 _ _ (sm_up hq _ _ hh)⟩, ⟨q, rfl, sm_up hq2 _ _ upd_same⟩⟩
end
end PW
end

section
set_option Elab.async false
set_option maxRecDepth 100000
set_option maxHeartbeats 4000000
set_option linter.all false
/-! Walks: takings_of, head_behind, walk. -/
namespace PW
open PySem L2 PX PR
section
variable {P : Program} {w : World} {K : PySem.W.Frag} {mg : Str → Option Value} {base : Heap} {c : Cs}
/-- a call of the class's own method on an instance that has no such field -/
theorem makeOk {T : Cs} {H : Hp} {x dx : Addr} {C : Addr} (hx : H x = none) (hd : H dx = none) : Same H (upd (upd H dx (.own x)) x (.ins C dx [])) := sm_own (sm_up hd) hx
theorem takingsJ_cons {M : Mach} {mk : Int → Bool} {rows : List RowJ} {i : Nat} {row : RowJ} (h : rows[i]? = some row) (es : List Ent) : takingsJ M mk (rows.drop i) es = match readJ M mk es row with | none => none | some es' => takingsJ M mk (rows.drop (i + 1)) es' := by
  obtain ⟨hl, e⟩ := List.getElem?_eq_some_iff.mp h
  rw [List.drop_eq_getElem_cons hl, e]
  rfl
theorem readJ_len {M : Mach} {mk : Int → Bool} {es es' : List Ent} {row : RowJ} (h : readJ M mk es row = some es') : es'.length = es.length + 1 := by
  unfold readJ at h
  split at h
  · cases h
  · split at h
    · cases h
    · split at h
      · cases h
      · cases h; simp
def spTakings (c : Cs) : Sp := fun vs H Q _ => ∃ (M : Mach) (mk : Int → Bool) (md : Addr) (m r : V) (rows : List RowJ), vs = [m, .ref md, r] ∧ machR c H M m ∧ MarksAt mk H md ∧ tupR rowR H rows r ∧ rows.length ≤ 1000 ∧
  ∀ v H', Same H H' → (match takingsJ M mk rows [] with | none => v = .non | some es => ∃ a l, v = .ref a ∧ TkAt c M mk H' a l es) → Q v H'
theorem sc_takings : FnScope ["machine", "marks", "rows", "takings", "row"] ["machine", "marks", "rows"] (defScope sTakings) := ⟨rfl, rfl, rfl, by decide +kernel, rfl, by decide +kernel, by decide +kernel⟩
theorem ok_takings (T : Txt K mg c) {f : Addr} {fd : FuncData} (F : Fun K "takings_of" "takings_of" sTakings f fd) : FnOk P w K mg base CX0 3 f fd ["machine", "marks", "rows"] (spTakings c) := by
  obtain ⟨f1, fd1, F1, b1, m1⟩ := T.tkInit
  obtain ⟨f2, fd2, F2, b2, m2⟩ := T.tkRead
  have G1 : FnOk P w K mg base CX0 1 f1 fd1 ["self", "machine", "marks"] (spTkInit c) := ok_tkInit T F1
  have G2 : FnOk P w K mg base CX0 2 f2 fd2 ["self", "row"] (spTkRead c) := ok_tkRead T F2
  refine F.ok sc_takings (fun vs H Q E h => ?_) (fun cdv A outer s H vs Q E hr h => ?_)
  · obtain ⟨M, mk, md, m, r, rows, rfl, _⟩ := h
    rfl
  · obtain ⟨M, mk, md, m, r, rows, rfl, hm, hmk, ⟨rt, xs, rfl, hrt, hrs⟩, hlen, k⟩ := h
    have hu := hu_of hr
    have hr1 : Room 2 _ := hr.mono (by decide)
    refine ⟨_, (pss_cons (ps_set (i := 3) sc_takings.nd rfl (by first | exact Or.inl rfl | exact Or.inr rfl) (pe_make m1 G1 hr1 (by rfl) T.mtk b1 .nil pass0 (pa_cons (pv 0) (pa_cons (pv 1) pa_nil))))
      (pss_cons (ps_for PassesOwn.never rfl (pi_tup (pv 2)) (pg_name (i := 4) sc_takings.nd rfl (by first | exact Or.inl rfl | exact Or.inr rfl))
          (pss_one (ps_if (pt_not (pt_val (pe_meth (pv 3) T.tk.cl m2 G2 hr1 b2 .nil pass0 (pa_cons (pv 4) pa_nil))))
              (pss_one (ps_ret pe_non))
              pss_nil)))
      (pss_one (ps_ret (pv 3))))), ?_⟩
    refine q_asg (e_make (va_cons (val_var rfl) (va_cons (val_var rfl) va_nil)) fun a dx ha hdx nda => ?_)
    have s0 : Same H (upd (upd H dx (.own a)) a (.ins c.tk dx [])) := sm_own (sm_up hdx) ha
    refine ⟨H, M, mk, a, dx, md, m, rfl, s0, ha, hm, hmk, upd_same, fun H1 l s1 tk hl => ⟨rfl, ?_⟩⟩
    refine q_tup (xs := xs) (val_var rfl) (SqT.of (s1 _ _ hrt)) (fun i σ H' => Same H H' ∧ ∃ es o, TkAt c M mk H' a l es ∧ takingsJ M mk rows [] = takingsJ M mk (rows.drop i) es ∧ es.length = i ∧ σ = [some m, some (.ref md), some (.ref rt), some (.ref a), o])
      ⟨s1, [], none, tk, rfl, rfl, rfl⟩ (fun i σ H' p => SqT.of (p.1 _ _ hrt)) ?_ ?_
    · rintro i x σ H' hx ⟨sm, es, o, tk', ej, el, rfl⟩
      obtain ⟨row, hrow, rrow⟩ := hrs.get' hx
      have hi := (List.getElem?_eq_some_iff.mp hrow).1
      rw [takingsJ_cons hrow] at ej
      refine g_name ?_
      obtain ⟨⟨dx', ts, md', h1, _, _⟩, ys, h2, _⟩ := id tk'
      refine s_ifE (a_notE (a_bE (e_meth (val_var rfl) h1 (takF_no _ _ _ (by decide +kernel) (by decide +kernel) (by decide +kernel)) (va_cons (val_var rfl) va_nil) ⟨M, mk, a, l, es, x, row, rfl, tk', rowR_m.mono (.same sm) rrow, by omega, fun v H2 hv => ?_⟩)))
      cases e1 : readJ M mk es row with
      | none =>
        rw [e1] at hv ej
        obtain ⟨rfl, s2⟩ := hv
        refine ⟨false, rfl, iteT (s_ret val_c (k _ _ (sm.trans s2) ?_))⟩
        rw [ej]
      | some es' =>
        rw [e1] at hv ej
        obtain ⟨rfl, f2, ys', hl2, hys'⟩ := hv
        refine ⟨true, rfl, iteF ?_⟩
        exact ⟨same_but sm hl f2, es', _, ⟨tk'.1.monoX (.but h2 f2), ys', hl2, hys'⟩, ej, by rw [readJ_len e1, el], rfl⟩
    · rintro σ H' ⟨sm, es, o, tk', ej, el, rfl⟩
      refine s_ret (val_var rfl) (k _ _ sm ?_)
      rw [ej, ← hrs.len, List.drop_length]
      exact ⟨a, l, rfl, tk'⟩
theorem descJ_cons {es : List Ent} {z : List (Int × Int)} {i : Nat} {l p : Int} (h : z[i]? = some (l, p)) (s : Int) : descJ es (z.drop i) s = match entJ es p s l with | none => none | some e => descJ es (z.drop (i + 1)) e.g := by
  obtain ⟨hl, e⟩ := List.getElem?_eq_some_iff.mp h
  rw [List.drop_eq_getElem_cons hl, e]
  rfl
theorem ints_get {ns : List Int} {i : Nat} {x : V} (h : (ns.map V.int)[i]? = some x) : ∃ n, ns[i]? = some n ∧ x = V.int n := by
  rw [List.getElem?_map] at h
  cases q : ns[i]? with
  | none => rw [q] at h; cases h
  | some n => rw [q] at h; exact ⟨n, rfl, (Option.some.inj h).symm⟩
def spBehind (c : Cs) : Sp := fun vs H Q _ => ∃ (M : Mach) (mk : Int → Bool) (a l : Addr) (es : List Ent) (cv dv : V) (cf : Int × List Int) (d : List Int), vs = [.ref a, cv, dv] ∧ TkAt c M mk H a l es ∧ cfgR H cf cv ∧ tupR intR H d dv ∧
  ∀ v H', Same H H' → optR hdR H' (headJ es cf d) v → Q v H'
theorem sc_behind : FnScope ["takings", "configuration", "descent", "state", "pile", "letter", "index", "found"] ["takings", "configuration", "descent"] (defScope sBehind) := ⟨rfl, rfl, rfl, by decide +kernel, rfl, by decide +kernel, by decide +kernel⟩
theorem ok_behind (T : Txt K mg c) {f : Addr} {fd : FuncData} (F : Fun K "head_behind" "head_behind" sBehind f fd) : FnOk P w K mg base CX0 2 f fd ["takings", "configuration", "descent"] (spBehind c) := by
  obtain ⟨f2, fd2, F2, b2, m2⟩ := T.tkEntry
  have G2 : FnOk P w K mg base CX0 1 f2 fd2 ["self", "index", "state", "letter"] (spTkEntry c) := ok_tkEntry T F2
  refine F.ok sc_behind (fun vs H Q E h => ?_) (fun cdv A outer s H vs Q E hr h => ?_)
  · obtain ⟨M, mk, a, l, es, cv, dv, cf, d, rfl, _⟩ := h
    rfl
  · obtain ⟨M, mk, a, l, es, cv, dv, cf, d, rfl, tk, ⟨ct, x, y, rfl, hct, rx, pt, ps, ry, hpt, hps⟩, ⟨dt, ds, rfl, hdt, hds⟩, k⟩ := h
    cases rx
    cases ry
    have hu := hu_of hr
    have hr1 : Room 1 _ := hr.mono (by decide)
    refine ⟨_, (pss_cons (ps_asg (pv 1) (pg_tup rfl (pgs_cons (pg_name (i := 3) sc_behind.nd rfl (by first | exact Or.inl rfl | exact Or.inr rfl)) (pgs_cons (pg_name (i := 4) sc_behind.nd rfl (by first | exact Or.inl rfl | exact Or.inr rfl)) pgs_nil))))
      (pss_cons (ps_if (pt_cmpR op_ge (pe_callB call_len_seq (by rfl) T.b PySem.boot_len (pa_cons (pv 2) pa_nil)) (pe_callB call_len_seq (by rfl) T.b PySem.boot_len (pa_cons (pv 4) pa_nil)) (nomark _))
          (pss_one (ps_ret pe_non))
          pss_nil)
      (pss_cons (ps_for PassesOwn.never rfl (RZ.pi_zipA (by rfl) T.b (pa_cons (pv 4) (pa_cons (pv 2) pa_nil))) (pg_tup rfl (pgs_cons (pg_name (i := 5) sc_behind.nd rfl (by first | exact Or.inl rfl | exact Or.inr rfl)) (pgs_cons (pg_name (i := 6) sc_behind.nd rfl (by first | exact Or.inl rfl | exact Or.inr rfl)) pgs_nil)))
          (pss_cons (ps_set (i := 7) sc_behind.nd rfl (by first | exact Or.inl rfl | exact Or.inr rfl) (pe_meth (pv 0) T.tk.cl m2 G2 hr1 b2 .nil pass0 (pa_cons (pv 6) (pa_cons (pv 3) (pa_cons (pv 5) pa_nil)))))
            (pss_cons (ps_if (pt_cmpR op_isN (pv 7) pe_non (nomark _))
                (pss_one (ps_ret pe_non))
                pss_nil)
            (pss_one (ps_set (i := 3) sc_behind.nd rfl (by first | exact Or.inl rfl | exact Or.inr rfl) (pe_ix ix_tup (pv 7) pe_int (fun _ _ => rfl)))))))
      (pss_one (ps_ret (pe_tup (pa_cons (pv 3) (pa_cons (pe_ix ix_tup (pv 4) (pe_callB call_len_seq (by rfl) T.b PySem.boot_len (pa_cons (pv 2) pa_nil)) (fun _ _ => rfl)) pa_nil)))))))), ?_⟩
    have hps' := all_ints hps
    subst hps'
    have hds' := all_ints hds
    subst hds'
    refine ⟨_, rfl, g_two hct ?_⟩
    refine q_when (b := decide (((cf.2.map V.int).length : Nat) ≤ (((d.map V.int).length : Nat) : Int))) (a_test (v_ge (v_len (val_var rfl) (.inr (SqT.of hdt))) (v_len (val_var rfl) (.inr (SqT.of hpt))))) (fun hb => ?_) (fun hb => ?_)
    · refine s_ret val_c (k _ _ (Same.refl H) ?_)
      have hb' := of_decide_eq_true hb
      simp only [List.length_map] at hb'
      have : headJ es cf d = none := by unfold headJ; rw [if_pos (by omega)]
      rw [this]
      exact rfl
    · have hb' := of_decide_eq_false hb
      simp only [List.length_map] at hb'
      have hlt : d.length < cf.2.length := by omega
      obtain ⟨⟨dx, ts, md, h1, _, _⟩, _⟩ := id tk
      refine q_zip (val_var rfl) (val_var rfl) (SqT.of hpt) (SqT.of hdt) (fun i σ H' => Same H H' ∧ ∃ (s : Int) (o5 o6 o7 : Option V), σ = [some (.ref a), some (.ref ct), some (.ref dt), some (.int s), some (.ref pt), o5, o6, o7] ∧ descJ es (cf.2.zip d) cf.1 = descJ es ((cf.2.zip d).drop i) s)
        ⟨Same.refl H, cf.1, none, none, none, rfl, rfl⟩ (fun i σ H' p => ⟨SqT.of (p.1 _ _ hpt), SqT.of (p.1 _ _ hdt)⟩) ?_ ?_
      · rintro i x y TT σ H' hx hy ⟨sm, s, o5, o6, o7, rfl, ep⟩ hT
        obtain ⟨li, hli, rfl⟩ := ints_get hx
        obtain ⟨pi, hpi, rfl⟩ := ints_get hy
        have hz : (cf.2.zip d)[i]? = some (li, pi) := by rw [List.getElem?_zip_eq_some]; exact ⟨hli, hpi⟩
        rw [descJ_cons hz] at ep
        have sm1 : Same H (upd H' TT (.tup [V.int li, V.int pi])) := sm_new sm hT
        refine g_two upd_same ?_
        refine q_asg (e_meth (val_var rfl) (sm1 _ _ h1) (takF_no _ _ _ (by decide +kernel) (by decide +kernel) (by decide +kernel)) (va_cons (val_var rfl) (va_cons (val_var rfl) (va_cons (val_var rfl) va_nil))) ⟨M, mk, a, l, es, pi, s, li, rfl, tk.mono (.same sm1), fun v hv => ?_⟩)
        cases e2 : entJ es pi s li with
        | none =>
          rw [e2] at hv ep
          cases hv
          refine q_when (b := true) (a_test (v_isN1 (val_var rfl))) (fun _ => s_ret val_c (k _ _ sm1 ?_)) (fun z => by cases z)
          have : headJ es cf d = none := by unfold headJ; rw [if_neg (by omega), ep]
          rw [this]
          exact rfl
        | some e =>
          rw [e2] at hv ep
          obtain ⟨ea, rfl, hea⟩ := hv
          refine q_when (b := false) (a_test (v_isN0 (val_var rfl))) (fun z => by cases z) (fun _ => ?_)
          refine s_set (v_ixT (val_var rfl) val_c hea (atI_nat (j := 2) rfl)) ?_
          exact ⟨sm1, e.g, _, _, _, rfl, ep⟩
      · rintro σ H' ⟨sm, s, o5, o6, o7, rfl, ep⟩
        have hm : min (cf.2.map V.int).length (d.map V.int).length = (cf.2.zip d).length := by simp [List.length_zip]
        rw [hm, List.drop_length] at ep
        have hg : (cf.2.map V.int)[d.length]? = some (V.int (cf.2.getD d.length 0)) := by
          rw [List.getElem?_map, List.getD_eq_getElem?_getD, List.getElem?_eq_getElem hlt]; rfl
        refine s_retE (t_tup (va_cons (val_var rfl) (va_cons (v_ixT (val_var rfl) (v_len (val_var rfl) (.inr (SqT.of (sm _ _ hdt)))) (sm _ _ hpt) (by rw [List.length_map]; exact atI_nat hg)) va_nil)) fun p hp => k _ _ (sm_new sm hp) ?_)
        have : headJ es cf d = some (s, cf.2.getD d.length 0) := by unfold headJ; rw [if_neg (by omega), ep]; rfl
        rw [this]
        exact ⟨p, rfl, upd_same⟩
/-! ### walk -/
def encH (h : Hd) : PyData := .tuple [.int h.1, .int h.2]
theorem hd_dp {H : Hp} {b : Addr} {h : Hd} (e : H b = some (.tup (DKey.vs h))) : Dp K H (.ref b) (encH h) := .tup (SqT.of e) (.cons (.int _) (.cons (.int _) .nil))
theorem eqv_hd (a b : Hd) : PyData.eqv (encH a) (encH b) = decide (a = b) := by
  obtain ⟨a1, a2⟩ := a
  obtain ⟨b1, b2⟩ := b
  rw [Bool.eq_iff_iff]
  simp [encH, PyData.eqv, PyData.eqvAll, Prod.mk.injEq]
theorem walkJ_cons {M : Mach} {mk : Int → Bool} {es : List Ent} {ms : List Mv} {i : Nat} {m : Mv} (h : ms[i]? = some m) (hd : Hd) (f : Bool) : walkJ M mk es (ms.drop i) hd f = match moveJ M mk es m with
    | none => none
    | some (h0, h1, b) => if h0 = hd then walkJ M mk es (ms.drop (i + 1)) h1 (f || b) else none := by
  obtain ⟨hl, e⟩ := List.getElem?_eq_some_iff.mp h
  rw [List.drop_eq_getElem_cons hl, e]
  rfl
abbrev wkR : Rp (Hd × Bool) := prR hdR blR
theorem wkR_m : MonoT wkR := prR_m keyR_m blR_m
def spWalk (c : Cs) : Sp := fun vs H Q _ => ∃ (M : Mach) (mk : Int → Bool) (a l : Addr) (es : List Ent) (hv mv : V) (h : Hd) (ms : List Mv), vs = [.ref a, hv, mv] ∧ TkAt c M mk H a l es ∧ hdR H h hv ∧ tupR mvR H ms mv ∧
  ∀ v H', Same H H' → optR wkR H' (walkJ M mk es ms h false) v → Q v H'
theorem sc_walk : FnScope ["takings", "head", "moves", "flag", "pair", "found"] ["takings", "head", "moves"] (defScope sWalk) := ⟨rfl, rfl, rfl, by decide +kernel, rfl, by decide +kernel, by decide +kernel⟩
theorem v_neH {σ : L2.St} {H : Hp} {ta tb : TE} {a b : Addr} {x y : Hd} (ha : Val ta σ H (.ref a)) (hb : Val tb σ H (.ref b)) (ea : H a = some (.tup (DKey.vs x))) (eb : H b = some (.tup (DKey.vs y))) : Val (tOp (rNeD K) ta tb) σ H (.bl (!decide (x = y))) :=
  val_op ha hb fun Q q => ⟨encH x, encH y, hd_dp ea, hd_dp eb, rfl, rfl, by rw [eqv_hd]; exact q⟩
theorem ok_walk (T : Txt K mg c) {f : Addr} {fd : FuncData} (F : Fun K "walk" "walk" sWalk f fd) : FnOk P w K mg base CX0 3 f fd ["takings", "head", "moves"] (spWalk c) := by
  obtain ⟨f2, fd2, F2, b2, m2⟩ := T.tkMove
  have G2 : FnOk P w K mg base CX0 2 f2 fd2 ["self", "pair"] (spTkMove c) := ok_tkMove T F2
  refine F.ok sc_walk (fun vs H Q E h => ?_) (fun cdv A outer s H vs Q E hr h => ?_)
  · obtain ⟨M, mk, a, l, es, hv, mv, h, ms, rfl, _⟩ := h
    rfl
  · obtain ⟨M, mk, a, l, es, hv, mv, h, ms, rfl, tk, ⟨hb, rfl, hhb⟩, ⟨mt, xs, rfl, hmt, hms⟩, k⟩ := h
    have hu := hu_of hr
    have hr1 : Room 2 _ := hr.mono (by decide)
    refine ⟨_, (pss_cons (ps_set (i := 3) sc_walk.nd rfl (by first | exact Or.inl rfl | exact Or.inr rfl) pe_bl)
      (pss_cons (ps_for PassesOwn.never rfl (pi_tup (pv 2)) (pg_name (i := 4) sc_walk.nd rfl (by first | exact Or.inl rfl | exact Or.inr rfl))
          (pss_cons (ps_set (i := 5) sc_walk.nd rfl (by first | exact Or.inl rfl | exact Or.inr rfl) (pe_meth (pv 0) T.tk.cl m2 G2 hr1 b2 .nil pass0 (pa_cons (pv 4) pa_nil)))
            (pss_cons (ps_if (PW.pt (pw_or (pt_cmpR op_isN (pv 5) pe_non (nomark _)) (pw_or1 (pt_cmpR (op_neD hr.units) (pe_ix ix_tup (pv 5) pe_int (fun _ _ => rfl)) (pv 1) (nomark _)))))
                (pss_one (ps_ret pe_non))
                pss_nil)
            (pss_cons (ps_set (i := 1) sc_walk.nd rfl (by first | exact Or.inl rfl | exact Or.inr rfl) (pe_ix ix_tup (pv 5) pe_int (fun _ _ => rfl)))
            (pss_one (ps_set (i := 3) sc_walk.nd rfl (by first | exact Or.inl rfl | exact Or.inr rfl) (pe_or (pv 3) (pe_one (pe_ix ix_tup (pv 5) pe_int (fun _ _ => rfl))))))))))
      (pss_one (ps_ret (pe_tup (pa_cons (pv 1) (pa_cons (pv 3) pa_nil))))))), ?_⟩
    refine q_set val_c ?_
    obtain ⟨⟨dx, ts, md, h1, _, _⟩, _⟩ := id tk
    refine q_tup (xs := xs) (val_var rfl) (SqT.of hmt) (fun i σ H' => Same H H' ∧ ∃ (hd : Hd) (f : Bool) (b : Addr) (o4 o5 : Option V), σ = [some (.ref a), some (.ref b), some (.ref mt), some (.bl f), o4, o5] ∧ H' b = some (.tup (DKey.vs hd)) ∧ walkJ M mk es ms h false = walkJ M mk es (ms.drop i) hd f)
      ⟨Same.refl H, h, false, hb, none, none, rfl, hhb, rfl⟩ (fun i σ H' p => SqT.of (p.1 _ _ hmt)) ?_ ?_
    · rintro i x σ H' hx ⟨sm, hd, f, b, o4, o5, rfl, hbd, ep⟩
      obtain ⟨m, hm, rm⟩ := hms.get' hx
      rw [walkJ_cons hm] at ep
      refine g_name ?_
      refine q_asg (e_meth (val_var rfl) (sm _ _ h1) (takF_no _ _ _ (by decide +kernel) (by decide +kernel) (by decide +kernel)) (va_cons (val_var rfl) va_nil) ⟨M, mk, a, l, es, x, m, rfl, tk.mono (.same sm), mvR_m.mono (.same sm) rm, fun v H2 s2 hv => ?_⟩)
      cases e2 : moveJ M mk es m with
      | none =>
        rw [e2] at hv ep
        cases hv
        refine q_when (b := true) (a_or (a := true) (b := false) (a_test (v_isN1 (val_var rfl))) fun z => by cases z) (fun _ => s_ret val_c (k _ _ (sm.trans s2) ?_)) (fun z => by cases z)
        rw [ep]
        exact rfl
      | some t =>
        obtain ⟨h0, h2, b'⟩ := t
        rw [e2] at hv ep
        obtain ⟨fa, x0, x1, rfl, hfa, ⟨p0, rfl, hp0⟩, ⟨p1, rfl, hp1⟩⟩ := hv
        refine q_when (b := false || !decide (h0 = hd)) (a_or (a := false) (a_test (v_isN0 (val_var rfl))) fun _ => a_test (v_neH (v_ixT (val_var rfl) val_c hfa (atI_nat (j := 0) rfl)) (val_var rfl) hp0 (s2 _ _ hbd))) (fun hz => ?_) (fun hz => ?_)
        · refine s_ret val_c (k _ _ (sm.trans s2) ?_)
          have hne : ¬ h0 = hd := by simpa using hz
          rw [ep]
          simp only [if_neg hne]
          exact rfl
        · have he : h0 = hd := by simpa using hz
          simp only [if_pos he] at ep
          refine q_set (v_ixT (val_var rfl) val_c hfa (atI_nat (j := 1) rfl)) ?_
          refine s_set (v_or (val_var rfl) fun _ => v_ixT (val_var rfl) val_c hfa (atI_nat (j := 2) rfl)) ?_
          exact ⟨sm.trans s2, h2, f || b', p1, _, _, rfl, hp1, ep⟩
    · rintro σ H' ⟨sm, hd, f, b, o4, o5, rfl, hbd, ep⟩
      rw [← hms.len, List.drop_length] at ep
      refine s_retE (t_tup (va_cons (val_var rfl) (va_cons (val_var rfl) va_nil)) fun p hp => k _ _ (sm_new sm hp) ?_)
      rw [ep]
      exact ⟨p, _, _, rfl, upd_same, ⟨b, rfl, sm_up hp _ _ hbd⟩, rfl⟩
end
end PW
end

section
set_option Elab.async false
set_option maxRecDepth 100000
set_option maxHeartbeats 4000000
set_option linter.all false
/-! Walks: Table. -/
namespace PW
open PySem L2 PX PR
section
variable {P : Program} {w : World} {K : PySem.W.Frag} {mg : Str → Option Value} {base : Heap} {c : Cs}
def tbF (kd bd : Addr) : List (Str × V) := putF "by_head" (.ref bd) (putF "known" (.ref kd) [])
theorem ne_kb : ¬ (("known" : Str) = "by_head") := by decide +kernel
theorem tbF_known (kd bd : Addr) : (tbF kd bd).lookup ("known" : Str) = some (.ref kd) := lk_miss ne_kb lk_hit
theorem tbF_by (kd bd : Addr) : (tbF kd bd).lookup ("by_head" : Str) = some (.ref bd) := lk_hit
theorem tbF_no (kd bd : Addr) {x : Str} (h1 : ¬ x = "by_head") (h2 : ¬ x = "known") : (tbF kd bd).lookup x = none := lk_miss h1 (lk_miss h2 rfl)
def gfR : Rp (Int × Bool) := fun H p v => ∃ a, v = .ref a ∧ H a = some (.tup [.int p.1, .bl p.2])
theorem gfR_m : MonoT gfR := ⟨fun e ⟨a, h1, h2⟩ => ⟨a, h1, e a _ h2⟩⟩
/-- a set of tuples, as the keys of a dict -/
def SetX {κ : Type} [DecidableEq κ] [DKey κ] (P : Program) (w : World) (H : Hp) (d : Addr) (T : List κ) : Prop := ∃ kvs : List (κ × V), DX P w H d kvs ∧ ∀ e, (valV kvs e).isSome = decide (e ∈ T)
theorem SetX.mono {κ : Type} [DecidableEq κ] [DKey κ] {H H' : Hp} {d : Addr} {T : List κ} (e : Lx H H') (h : SetX P w H d T) : SetX P w H' d T := let ⟨kvs, h1, h2⟩ := h; ⟨kvs, h1.mono e, h2⟩
def TbAt (P : Program) (w : World) (c : Cs) (H : Hp) (a : Addr) (T : List Ent) : Prop := ∃ dx kd bd, H a = some (.ins c.tb dx (tbF kd bd)) ∧ SetX P w H kd T ∧ MMr gfR P w H bd (fromJ T)
theorem TbAt.mono {H H' : Hp} {a : Addr} {T : List Ent} (e : Le H H') (h : TbAt P w c H a T) : TbAt P w c H' a T := let ⟨dx, kd, bd, h1, h2, h3⟩ := h; ⟨dx, kd, bd, e.ins h1, h2.mono e.lx, h3.mono gfR_m e⟩
theorem fromJ_snoc (T : List Ent) (e : Ent) (h : Hd) : fromJ (T ++ [e]) h = if h = (e.s, e.l) then fromJ T h ++ [(e.g, e.f)] else fromJ T h := by
  unfold fromJ
  rw [List.filter_append, List.map_append]
  by_cases hh : h = (e.s, e.l)
  · rw [if_pos hh, hh]; simp [List.filter_cons, Ent.hd]
  · rw [if_neg hh]
    have : ¬ e.hd = h := fun z => hh z.symm
    simp [List.filter_cons, this]
theorem fromJ_len (T : List Ent) (h : Hd) : (fromJ T h).length ≤ T.length := by
  unfold fromJ
  rw [List.length_map]
  exact List.length_filter_le _ _
def spTbInit (P : Program) (w : World) (c : Cs) : Sp := fun vs H Q _ => ∃ (H0 : Hp) (T : List Ent) (p dx : Addr) (ev : V), vs = [.ref p, ev] ∧ Same H0 H ∧ H0 p = none ∧ tupR entR H0 T ev ∧ T.Nodup ∧ T.length ≤ 1000 ∧ H p = some (.ins c.tb dx []) ∧
  ∀ (H' : Hp), Same H0 H' → TbAt P w c H' p T → Q .non H'
theorem sc_tbInit : FnScope ["self", "entries", "state", "letter", "goal", "flag"] ["self", "entries"] (defScope sTbInit) := ⟨rfl, rfl, rfl, by decide +kernel, rfl, by decide +kernel, by decide +kernel⟩
theorem ok_tbInit (T : Txt K mg c) {f : Addr} {fd : FuncData} (F : Fun K "__init__" "Table.__init__" sTbInit f fd) : FnOk P w K mg base CX0 1 f fd ["self", "entries"] (spTbInit P w c) := by
  refine F.ok sc_tbInit (fun vs H Q E h => ?_) (fun cdv A outer s H vs Q E hr h => ?_)
  · obtain ⟨H0, TT, p, dx, ev, rfl, _⟩ := h
    rfl
  · obtain ⟨H0, TT, p, dx, ev, rfl, s0, p0, ⟨et, xs, rfl, het, hxs⟩, nd, hlen, hp, k⟩ := h
    have hu := hu_of hr
    refine ⟨_, (pss_cons (ps_fld (pv 0) (pe_xnew Ent) rfl)
      (pss_cons (ps_fld (pv 0) (pe_xnew Hd) rfl)
      (pss_one (ps_for PassesOwn.never rfl (pi_tup (pv 1)) (pg_tup rfl (pgs_cons (pg_name (i := 2) sc_tbInit.nd rfl (by first | exact Or.inl rfl | exact Or.inr rfl)) (pgs_cons (pg_name (i := 3) sc_tbInit.nd rfl (by first | exact Or.inl rfl | exact Or.inr rfl)) (pgs_cons (pg_name (i := 4) sc_tbInit.nd rfl (by first | exact Or.inl rfl | exact Or.inr rfl)) (pgs_cons (pg_name (i := 5) sc_tbInit.nd rfl (by first | exact Or.inl rfl | exact Or.inr rfl)) pgs_nil)))))
          (pss_one (ps_if (pt_cmp (pc_xnotin Ent hu (pe_tup (pa_cons (pv 2) (pa_cons (pv 3) (pa_cons (pv 4) (pa_cons (pv 5) pa_nil))))) (pe_fld (pv 0) rfl)) (by rfl))
              (pss_cons (ps_xput Ent hu (pe_fld (pv 0) rfl) (pe_tup (pa_cons (pv 2) (pa_cons (pv 3) (pa_cons (pv 4) (pa_cons (pv 5) pa_nil))))) pe_bl rfl)
                (pss_one (ps_expr (pe_bm PySem.F.plainAttrs_list PySem.F.slot_list_append PySem.F.type_list_append mt_append (pe_xsetd Hd hu (pe_fld (pv 0) rfl) (pe_tup (pa_cons (pv 2) (pa_cons (pv 3) pa_nil))) (pe_lst pa_nil) ⟨rfl, rfl, rfl, rfl⟩) (pa_cons (pe_tup (pa_cons (pv 4) (pa_cons (pv 5) pa_nil))) pa_nil)))))
              pss_nil)))))), ?_⟩
    refine q_fldE (e_xnew fun kd H1 hkd e1 d1 => ?_)
    have nkp : kd ≠ p := fun z => by rw [z, hp] at hkd; cases hkd
    refine ⟨_, rfl, p, c.tb, dx, [], rfl, by rw [e1, upd_ne nkp.symm]; exact hp, T.tb.cl, T.tb.no _ (by simp), (by decide), ?_⟩
    refine q_fldE (e_xnew fun bd H2 hbd e2 d2 => ?_)
    have nbp : bd ≠ p := fun z => by rw [z, upd_same] at hbd; cases hbd
    have nbk : bd ≠ kd := fun z => by rw [upd_ne nbp, z, e1, upd_same] at hbd; cases hbd
    refine ⟨_, rfl, p, c.tb, dx, _, rfl, by rw [e2, upd_ne nbp.symm, upd_same], T.tb.cl, T.tb.no _ (by simp), few (len_put (n := 0) (Nat.le_refl _)) (by decide), ?_⟩
    have hk0 : H0 kd = none := s0.free hkd
    have hb0 : H0 bd = none := s0.free (by rw [upd_ne nbp, e1, upd_ne nbk] at hbd; exact hbd)
    have s3 : Same H0 (upd H2 p (.ins c.tb dx (tbF kd bd))) := by
      rw [e2, e1]
      exact sm_own (sm_own (sm_own (sm_own s0 hk0) p0) hb0) p0
    have hk2 : H2 kd = H1 kd := by rw [e2, upd_ne nbk.symm, upd_ne nkp]
    have hp3 : (upd H2 p (.ins c.tb dx (tbF kd bd))) p = some (.ins c.tb dx (tbF kd bd)) := upd_same
    have d1' : DXm P w (upd H2 p (.ins c.tb dx (tbF kd bd))) kd ([] : List (Ent × V)) := by
      obtain ⟨ys, q1, q2⟩ := d1
      cases q2
      exact ⟨[], by rw [upd_ne nkp, hk2]; exact q1, .nil⟩
    have d2' : DXm P w (upd H2 p (.ins c.tb dx (tbF kd bd))) bd ([] : List (Hd × V)) := by
      obtain ⟨ys, q1, q2⟩ := d2
      cases q2
      exact ⟨[], by rw [upd_ne nbp]; exact q1, .nil⟩
    refine s_tup (xs := xs) (val_var rfl) (SqT.of (s3 _ _ het)) (fun i σ H' => Same H0 H' ∧ (∃ o2 o3 o4 o5, σ = [some (.ref p), some (.ref et), o2, o3, o4, o5]) ∧ H' p = some (.ins c.tb dx (tbF kd bd)) ∧
        (∃ kvs : List (Ent × V), DXm P w H' kd kvs ∧ kvs.length ≤ i ∧ ∀ e, (valV kvs e).isSome = decide (e ∈ TT.take i)) ∧ ∃ L, MM gfR P w H' bd (fromJ (TT.take i)) L i ∧ kd ∉ L ∧ ∀ b ∈ L, H0 b = none)
      ⟨s3, ⟨_, _, _, _, rfl⟩, hp3, ⟨[], d1', Nat.le_refl _, fun e => by simp [valV]⟩, [bd], MM.new d2', fun z => nbk (List.mem_singleton.mp z).symm, fun b z => by rw [List.mem_singleton.mp z]; exact hb0⟩
      (fun i σ H' q => SqT.of (q.1 _ _ het)) ?_ ?_
    · rintro i x σ H' hx ⟨sm, ⟨o2, o3, o4, o5, rfl⟩, hp', ⟨kvs, dk, kl, kv⟩, L, mm, nkL, fL⟩
      obtain ⟨e, he, ea, rfl, hea⟩ := hxs.get' hx
      have hi := (List.getElem?_eq_some_iff.mp he).1
      have hnew : e ∉ TT.take i := by
        intro z
        obtain ⟨j, hj⟩ := List.mem_iff_getElem?.mp z
        have hj' := (List.getElem?_eq_some_iff.mp hj).1
        rw [List.length_take] at hj'
        rw [List.getElem?_take_of_lt (by omega)] at hj
        have := nd_at nd hj he
        omega
      refine g_four (sm _ _ hea) ?_
      have hfld : ∀ {σ : L2.St} {H2 : Hp} {fn : Str} {v : V}, H2 p = some (.ins c.tb dx (tbF kd bd)) → σ[0]? = some (some (.ref p)) → fn ∈ (["known", "by_head"] : List Str) → (tbF kd bd).lookup fn = some v → Val (tFld K (tVar 0) fn) σ H2 v := fun h e hm hl => val_fld (val_var e) h T.tb.cl (T.tb.no _ hm) hl
      refine s_ifE (a_testE (e_xnin (k := e) (new1_tup (va_cons (val_var rfl) (va_cons (val_var rfl) (va_cons (val_var rfl) (va_cons (val_var rfl) va_nil))))) (fun H1 s1 => hfld (s1 _ _ hp') rfl (by simp) (tbF_known _ _)) dk.rd fun H1 s1 => ⟨_, rfl, ?_⟩))
      rw [kv e, decide_eq_false hnew]
      refine iteT ?_
      refine q_xput (k := e) val_c (hfld (s1 _ _ hp') rfl (by simp) (tbF_known _ _)) (new1_tup (va_cons (val_var rfl) (va_cons (val_var rfl) (va_cons (val_var rfl) (va_cons (val_var rfl) va_nil))))) (dk.same s1) (Nat.lt_of_le_of_lt kl (by omega)) fun H2 H4 s2 h4 => ?_
      have s12 := s1.trans s2
      obtain ⟨dm4, fr4, lo4⟩ := DXm.put h4 (dk.same s12)
      have hp4 : H4 p = some (.ins c.tb dx (tbF kd bd)) := lo4.ins (s12 _ _ hp')
      have sm4 : Same H0 H4 := fr4.base (sm.trans s12) fun b z => by rw [List.mem_singleton.mp z]; exact hk0
      have mm4 : MM gfR P w H4 bd (fromJ (TT.take i)) L i := (mm.same gfR_m s12).frame gfR_m (fun b hb => by
        obtain ⟨ys, q1, _⟩ := h4
        rw [q1, upd_ne fun z => nkL (by rw [← z]; exact hb)]) lo4.tp
      refine mmAdd (h := (e.s, e.l)) (b0 := (e.g, e.f)) gfR_m mm4 (hfld hp4 rfl (by simp) (tbF_by _ _)) (new1_tup (va_cons (val_var rfl) (va_cons (val_var rfl) va_nil))) (by omega) ?_ (fun H5 Q5 lo5 fr5 q5 => t_tup (va_cons (val_var rfl) (va_cons (val_var rfl) va_nil)) fun b hb => q5 _ _ (sm_up hb) ⟨b, rfl, upd_same⟩) fun H6 lo6 fr6 ⟨L', mm6, hL'⟩ => ?_
      · refine Nat.lt_of_le_of_lt (fromJ_len _ _) ?_
        rw [List.length_take]; omega
      · have eT : TT.take (i + 1) = TT.take i ++ [e] := take_succ' he
        refine ⟨fr6.base sm4 fL, ⟨_, _, _, _, rfl⟩, lo6.ins hp4, ⟨_, dm4.fr ?_ lo6.tp, Nat.le_trans (length_putK _ _ _) (Nat.succ_le_succ kl), fun e' => ?_⟩, L', ?_, fun z => ?_, fun b hb => ?_⟩
        · obtain ⟨φ, q⟩ := dm4.ext
          rw [q]; exact fr6 _ _ q nkL
        · rw [valV_put, eT]
          by_cases h : e' = e
          · rw [if_pos h]; simp [h]
          · rw [if_neg h, kv e']; simp [h]
        · have ef : (fun h => if h = (e.s, e.l) then fromJ (TT.take i) h ++ [(e.g, e.f)] else fromJ (TT.take i) h) = fromJ (TT.take (i + 1)) := funext fun h => by rw [eT, fromJ_snoc]
          rw [← ef]; exact mm6
        · rcases hL' _ z with z | z
          · exact nkL z
          · obtain ⟨φ, q⟩ := dm4.ext
            rw [q] at z; cases z
        · rcases hL' _ hb with z | z
          · exact fL b z
          · exact sm4.free z
    · rintro σ H' ⟨sm, _, hp', ⟨kvs, dk, kl, kv⟩, L, mm, nkL, fL⟩
      rw [← hxs.len, List.take_length] at kv mm
      exact k _ sm ⟨dx, kd, bd, hp', ⟨kvs, dk.rd, kv⟩, mm.r⟩
def spTbFrom (P : Program) (w : World) (c : Cs) : Sp := fun vs H Q _ => ∃ (T : List Ent) (a : Addr) (s l : Int), vs = [.ref a, .int s, .int l] ∧ TbAt P w c H a T ∧ ∀ p ys H', Same H H' → H p = none → H' p = some (.lst ys) → All gfR H' (fromJ T (s, l)) ys → Q (.ref p) H'
theorem sc_tbFrom : FnScope ["self", "state", "letter"] ["self", "state", "letter"] (defScope sTbFrom) := ⟨rfl, rfl, rfl, by decide +kernel, rfl, by decide +kernel, by decide +kernel⟩
theorem ok_tbFrom (T : Txt K mg c) {f : Addr} {fd : FuncData} (F : Fun K "from_head" "Table.from_head" sTbFrom f fd) : FnOk P w K mg base CX0 1 f fd ["self", "state", "letter"] (spTbFrom P w c) := by
  refine F.ok sc_tbFrom (fun vs H Q E h => ?_) (fun cdv A outer s H vs Q E hr h => ?_)
  · obtain ⟨TT, a, s, l, rfl, _⟩ := h
    rfl
  · obtain ⟨TT, a, s, l, rfl, ⟨dx, kd, bd, h1, h2, h3⟩, k⟩ := h
    have hu := hu_of hr
    refine ⟨_, (pss_one (ps_ret (pe_callTy call_list_of (by rfl) T.b (by decide +kernel) (pa_cons (pe_xget2 Hd hu (pe_fld (pv 0) rfl) (pe_tup (pa_cons (pv 1) (pa_cons (pv 2) pa_nil))) (pe_tup pa_nil) ⟨rfl, rfl, rfl, rfl⟩) pa_nil)))), ?_⟩
    refine s_retE (tcons_E (e_mmGetT (h := (s, l)) gfR_m h3 (val_fld (val_var rfl) h1 T.tb.cl (T.tb.no _ (by simp)) (tbF_by _ _)) (new1_tup (va_cons (val_var rfl) (va_cons (val_var rfl) va_nil))) fun q ys H1 s1 hq hr => ?_))
    refine ⟨q, ys, rfl, hq.elim (fun z => .inl (SqL.of z)) (fun z => .inr (SqT.of z)), fun p hp => k p ys _ (sm_new s1 hp) (s1.free hp) upd_same (hr.mono gfR_m (.new hp))⟩
end
end PW
end

section
set_option Elab.async false
set_option maxRecDepth 100000
set_option maxHeartbeats 4000000
set_option linter.all false
/-! Walks: Table.is_closed, Table.edges_of. -/
namespace PW
open PySem L2 PX PR
section
variable {P : Program} {w : World} {K : PySem.W.Frag} {mg : Str → Option Value} {base : Heap} {c : Cs}
theorem drop_at {α : Type} {l : List α} {i : Nat} {a : α} (h : l[i]? = some a) : l.drop i = a :: l.drop (i + 1) := by
  obtain ⟨hl, e⟩ := List.getElem?_eq_some_iff.mp h
  rw [List.drop_eq_getElem_cons hl, e]
theorem flat_len {α β : Type} (F : α → List β) (n : Nat) (h : ∀ a, (F a).length ≤ n) : ∀ l : List α, (l.flatMap F).length ≤ l.length * n
  | [] => by simp
  | a :: l => by
    have := flat_len F n h l
    rw [List.flatMap_cons, List.length_append, List.length_cons, Nat.succ_mul]
    have := h a
    omega
theorem tb_fld (T : Txt K mg c) {σ : L2.St} {H : Hp} {te : TE} {a dx kd bd : Addr} {fn : Str} {v : V} (h : H a = some (.ins c.tb dx (tbF kd bd))) (e : Val te σ H (.ref a)) (hm : fn ∈ (["known", "by_head"] : List Str)) (hl : (tbF kd bd).lookup fn = some v) : Val (tFld K te fn) σ H v := val_fld e h T.tb.cl (T.tb.no _ hm) hl
theorem st_fld (T : Txt K mg c) {σ : L2.St} {H : Hp} {te : TE} {a dx t : Addr} {p : Stp} {fn : Str} {v : V} (h : H a = some (.ins c.st dx (stepF p t))) (e : Val te σ H (.ref a)) (hm : fn ∈ (["state", "letter", "goal", "laid", "weight"] : List Str)) (hl : (stepF p t).lookup fn = some v) : Val (tFld K te fn) σ H v := val_fld e h T.st.cl (T.st.no _ hm) hl
theorem ma_fld (T : Txt K mg c) {σ : L2.St} {H : Hp} {te : TE} {a dx t : Addr} {M : Mach} {fn : Str} {v : V} (h : H a = some (.ins c.ma dx (machF M t))) (e : Val te σ H (.ref a)) (hm : fn ∈ (["states", "letters", "steps"] : List Str)) (hl : (machF M t).lookup fn = some v) : Val (tFld K te fn) σ H v := val_fld e h T.ma.cl (T.ma.no _ hm) hl
def spTbClosed (P : Program) (w : World) (c : Cs) : Sp := fun vs H Q _ => ∃ (M : Mach) (mk : Int → Bool) (T : List Ent) (a md : Addr) (m : V), vs = [.ref a, m, .ref md] ∧ TbAt P w c H a T ∧ machR c H M m ∧ MarksAt mk H md ∧ (∀ p ∈ M.steps, p.laid.length ≤ 2) ∧ T.length ≤ 200 ∧
  ∀ H', Same H H' → Q (.bl (closedJ T mk M.steps 0)) H'
theorem sc_tbClosed : FnScope ["self", "machine", "marks", "index", "step", "reached", "letter", "goal", "flag", "end", "more"] ["self", "machine", "marks"] (defScope sTbClosed) := ⟨rfl, rfl, rfl, by decide +kernel, rfl, by decide +kernel, by decide +kernel⟩
theorem ok_tbClosed (T : Txt K mg c) {f : Addr} {fd : FuncData} (F : Fun K "is_closed" "Table.is_closed" sTbClosed f fd) : FnOk P w K mg base CX0 2 f fd ["self", "machine", "marks"] (spTbClosed P w c) := by
  obtain ⟨f2, fd2, F2, b2, m2⟩ := T.tbFrom
  have G2 : FnOk P w K mg base CX0 1 f2 fd2 ["self", "state", "letter"] (spTbFrom P w c) := ok_tbFrom T F2
  refine F.ok sc_tbClosed (fun vs H Q E h => ?_) (fun cdv A outer s H vs Q E hr h => ?_)
  · obtain ⟨M, mk, TT, a, md, m, rfl, _⟩ := h
    rfl
  · obtain ⟨M, mk, TT, a, md, m, rfl, tb, ⟨ma, mdx, mt, rfl, hma, hst⟩, hmk, hlaid, hTl, k⟩ := h
    have hu := hu_of hr
    refine ⟨_, (pss_cons (ps_for PassesOwn.never rfl (pi_enumT (by rfl) T.b (pa_cons (pe_fld (pv 1) rfl) pa_nil)) (pg_tup rfl (pgs_cons (pg_name (i := 3) sc_tbClosed.nd rfl (by first | exact Or.inl rfl | exact Or.inr rfl)) (pgs_cons (pg_name (i := 4) sc_tbClosed.nd rfl (by first | exact Or.inl rfl | exact Or.inr rfl)) pgs_nil)))
          (pss_cons (ps_set (i := 5) sc_tbClosed.nd rfl (by first | exact Or.inl rfl | exact Or.inr rfl) (pe_lst (pa_cons (pe_tup (pa_cons (pe_fld (pv 4) rfl) (pa_cons (pe_cmp (pc_din hu (pv 3) (pv 2)) (by rfl)) pa_nil))) pa_nil)))
            (pss_cons (ps_for PassesOwn.never rfl (pi_tup (pe_fld (pv 4) rfl)) (pg_name (i := 6) sc_tbClosed.nd rfl (by first | exact Or.inl rfl | exact Or.inr rfl))
                (pss_one (ps_setLc2 (i := 5) (own := [("goal", 7), ("flag", 8), ("end", 9), ("more", 10)]) (vs1 := [9, 10]) (tt := tYes) (tt1 := tYes) (g := gTup K 2 (gCons (gName 7) (gCons (gName 8) gNil))) (g1 := gTup K 2 (gCons (gName 9) (gCons (gName 10) gNil))) (wi1 := iList K (tMeth c.tb "from_head" (spTbFrom P w c) [] _ (tVar 0) (tCons (tVar 7) (tCons (tVar 6) tNil)))) rfl sc_tbClosed.nd rfl rfl (sw_true rfl rfl rfl (by decide +kernel)) (pi_list (pv 5)) (blkOk_by (N := ["self", "machine", "marks", "index", "step", "reached", "letter", "goal", "flag", "end", "more"]) (sc := defScope sTbClosed) (by decide +kernel)) (by decide) (fun _ _ _ _ _ => (pg_tup rfl (pgs_cons (pg_name (i := 7) sc_tbClosed.nd rfl (by first | exact Or.inl rfl | exact Or.inr rfl)) (pgs_cons (pg_name (i := 8) sc_tbClosed.nd rfl (by first | exact Or.inl rfl | exact Or.inr rfl)) pgs_nil)))) (fun _ _ _ _ _ => pts_nil) (fun _ _ _ _ _ => (pi_list (pe_meth (pv 0) T.tb.cl m2 G2 hr b2 .nil pass0 (pa_cons (pv 7) (pa_cons (pv 6) pa_nil))))) (fun _ _ _ _ _ => (pg_tup rfl (pgs_cons (pg_name (i := 9) sc_tbClosed.nd rfl (by first | exact Or.inl rfl | exact Or.inr rfl)) (pgs_cons (pg_name (i := 10) sc_tbClosed.nd rfl (by first | exact Or.inl rfl | exact Or.inr rfl)) pgs_nil)))) (fun _ _ _ _ _ => pts_nil) (fun _ _ _ _ _ => (pe_tup (pa_cons (pv 9) (pa_cons (pe_or (pv 8) (pe_one (pv 10))) pa_nil)))))))
            (pss_one (ps_for PassesOwn.never rfl (pi_list (pv 5)) (pg_tup rfl (pgs_cons (pg_name (i := 7) sc_tbClosed.nd rfl (by first | exact Or.inl rfl | exact Or.inr rfl)) (pgs_cons (pg_name (i := 8) sc_tbClosed.nd rfl (by first | exact Or.inl rfl | exact Or.inr rfl)) pgs_nil)))
                (pss_one (ps_if (pt_cmp (pc_xnotin Ent hu (pe_tup (pa_cons (pe_fld (pv 4) rfl) (pa_cons (pe_fld (pv 4) rfl) (pa_cons (pv 7) (pa_cons (pv 8) pa_nil))))) (pe_fld (pv 0) rfl)) (by rfl))
                    (pss_one (ps_ret pe_bl))
                    pss_nil)))))))
      (pss_one (ps_ret pe_bl))), ?_⟩
    obtain ⟨sx, hsx, hsr⟩ := hst
    refine q_enumT (xs := sx) (ma_fld T hma (val_var rfl) (by simp) (machF_steps _ _)) (SqT.of hsx) (fun i σ H' => Same H H' ∧ (∃ o3 o4 o5 o6 o7 o8 o9 o10, σ = [some (.ref a), some (.ref ma), some (.ref md), o3, o4, o5, o6, o7, o8, o9, o10]) ∧ closedJ TT mk M.steps 0 = closedJ TT mk (M.steps.drop i) i)
      ⟨Same.refl H, ⟨_, _, _, _, _, _, _, _, rfl⟩, rfl⟩ (fun i σ H' p => SqT.of (p.1 _ _ hsx)) ?_ ?_
    · rintro i x TP σ H' hx ⟨sm, ⟨o3, o4, o5, o6, o7, o8, o9, o10, rfl⟩, ec⟩ hTP
      obtain ⟨st, hst, sa, sd, tl, rfl, hsa, htl⟩ := hsr.get' hx
      rw [drop_at hst] at ec
      simp only [closedJ] at ec
      have sm1 : Same H (upd H' TP (.tup [.int (i : Nat), .ref sa])) := sm_new sm hTP
      refine g_two upd_same ?_
      generalize upd H' TP (.tup [.int (i : Nat), .ref sa]) = H1 at sm1
      -- reached = [(step.goal, index in marks)]
      refine q_asg (t_lstE (tcons_E (t_tup (va_cons (st_fld T (sm1 _ _ hsa) (val_var rfl) (by simp) (stepF_goal _ _)) (va_cons (v_in (val_var rfl) (val_var rfl) (hmk.mono (.same sm1))) va_nil)) fun b hb => ⟨by show 1 ≤ sizeLine; decide, fun p hp => ?_⟩)))
      have s2 : Same H1 (upd (upd H1 b (.tup [.int st.g, .bl (mk i)])) p (.lst [.ref b])) := sm_new (sm_up hb) hp
      have hb2 : (upd (upd H1 b (.tup [.int st.g, .bl (mk i)])) p (.lst [.ref b])) b = some (.tup [.int st.g, .bl (mk i)]) := sm_up hp _ _ upd_same
      refine q_tup (xs := st.laid.map V.int) (st_fld T ((sm1.trans s2) _ _ hsa) (val_var rfl) (by simp) (stepF_laid _ _)) (SqT.of ((sm1.trans s2) _ _ htl)) (fun j σ H' => Same H H' ∧ ∃ rs ys p' o6 o7 o8 o9 o10, σ = [some (.ref a), some (.ref ma), some (.ref md), some (.int (i : Nat)), some (.ref sa), some (.ref p'), o6, o7, o8, o9, o10] ∧ H' p' = some (.lst ys) ∧ All gfR H' rs ys ∧ reachJ TT st.laid [(st.g, mk i)] = reachJ TT (st.laid.drop j) rs ∧ rs.length ≤ 200 ^ j)
        ⟨sm1.trans s2, [(st.g, mk i)], _, p, _, _, _, _, _, rfl, upd_same, .cons ⟨b, rfl, hb2⟩ .nil, rfl, Nat.le_refl _⟩ (fun j σ H' p => SqT.of (p.1 _ _ htl)) ?_ ?_
      · rintro j x σ H2 hx ⟨sm2, rs, ys, p', o6, o7, o8, o9, o10, rfl, hp', hrs, er, hl⟩
        obtain ⟨l, hl0, rfl⟩ := ints_get hx
        rw [drop_at hl0] at er
        simp only [reachJ] at er
        have hj : j < 2 := Nat.lt_of_lt_of_le (List.getElem?_eq_some_iff.mp hl0).1 (hlaid st (List.mem_of_getElem? hst))
        have hF : ((rs.flatMap fun p => (fromJ TT (p.1, l)).map fun q => (q.1, p.2 || q.2))).length ≤ 200 ^ (j + 1) := by
          refine Nat.le_trans (flat_len _ 200 (fun a => ?_) rs) ?_
          · rw [List.length_map]; exact Nat.le_trans (fromJ_len _ _) hTl
          · rw [Nat.pow_succ]; exact Nat.mul_le_mul_right _ hl
        refine g_name ?_
        refine s_asg (e_lc2 (R := gfR) gfR_m rs (fun p => (fromJ TT (p.1, l)).map fun q => (q.1, p.2 || q.2)) (val_var rfl) hp' hrs.len (Nat.le_trans hF ?_) ?_ ?_)
        · have : j = 0 ∨ j = 1 := by omega
          rcases this with rfl | rfl <;> decide
        · rintro i2 x b0 H3 C hx2 hb0 s3 kC
          obtain ⟨b0', hb0', xa, rfl, hxa⟩ := hrs.get' hx2
          rw [hb0] at hb0'
          cases hb0'
          refine g_two (s3 _ _ hxa) (kC _ rfl ?_)
          intro Q2 kQ
          obtain ⟨dx, kd, bd, h1, h2, h3⟩ := tb.mono (.same (sm2.trans s3))
          refine e_meth (val_var rfl) h1 (tbF_no _ _ (by decide +kernel) (by decide +kernel)) (va_cons (val_var rfl) (va_cons (val_var rfl) va_nil)) ⟨TT, a, b0.1, l, rfl, ⟨dx, kd, bd, h1, h2, h3⟩, fun q zs H4 s4 hq hq4 hzs => ?_⟩
          refine kQ q zs H4 s4 hq hq4 (by rw [List.length_map, hzs.len]) fun j2 y e2 H5 Q5 hy he2 s5 t5 k5 => ?_
          rw [List.getElem?_map] at he2
          obtain ⟨qq, hqq, ya, rfl, hya⟩ := hzs.get' hy
          rw [hqq] at he2
          cases he2
          refine g_two (t5 _ _ hya) ⟨rfl, t_tup (va_cons (val_var rfl) (va_cons (v_or (val_var rfl) fun _ => val_var rfl) va_nil)) fun b5 hb5 => k5 _ _ (sm_up hb5) ⟨b5, rfl, upd_same⟩⟩
        · intro Dd H3 acc s3 hD hD3 ha3
          exact ⟨sm2.trans s3, _, acc, Dd, _, _, _, _, _, rfl, hD3, ha3, er, hF⟩
      · rintro σ H2 ⟨sm2, rs, ys, p', o6, o7, o8, o9, o10, rfl, hp', hrs, er, hl⟩
        rw [List.length_map, List.drop_length] at er
        simp only [reachJ] at er
        refine s_list (xs := ys) (val_var rfl) (SqL.of hp') (fun j σ H' => Same H2 H' ∧ ∃ o6 o7 o8 o9 o10, σ = [some (.ref a), some (.ref ma), some (.ref md), some (.int (i : Nat)), some (.ref sa), some (.ref p'), o6, o7, o8, o9, o10] ∧ (rs.take j).all (fun p => decide ((⟨st.s, st.l, p.1, p.2⟩ : Ent) ∈ TT)) = true)
          ⟨Same.refl H2, _, _, _, _, _, rfl, rfl⟩ (fun j σ H' p => SqL.of (p.1 _ _ hp')) ?_ ?_
        · rintro j x σ H3 hx ⟨s3, o6, o7, o8, o9, o10, rfl, eall⟩
          obtain ⟨b0, hb0, xa, rfl, hxa⟩ := hrs.get' hx
          refine g_two (s3 _ _ hxa) ?_
          have s23 := sm2.trans s3
          obtain ⟨dx, kd, bd, h1, ⟨kvs, h2, hk2⟩, h3⟩ := tb.mono (.same s23)
          refine s_ifE (a_testE (e_xnin (k := (⟨st.s, st.l, b0.1, b0.2⟩ : Ent)) (new1_tup (va_cons (st_fld T (s23 _ _ hsa) (val_var rfl) (by simp) (stepF_state _ _)) (va_cons (st_fld T (s23 _ _ hsa) (val_var rfl) (by simp) (stepF_letter _ _)) (va_cons (val_var rfl) (va_cons (val_var rfl) va_nil))))) (fun H4 s4 => tb_fld T (s4 _ _ h1) (val_var rfl) (by simp) (tbF_known _ _)) h2 fun H4 s4 => ⟨_, rfl, ?_⟩))
          rw [hk2]
          by_cases hin : (⟨st.s, st.l, b0.1, b0.2⟩ : Ent) ∈ TT
          · rw [decide_eq_true hin]
            refine iteF ⟨s3.trans s4, _, _, _, _, _, rfl, ?_⟩
            rw [take_succ' hb0, List.all_append, eall]
            simp [hin]
          · rw [decide_eq_false hin]
            refine iteT (s_ret val_c ?_)
            have : closedJ TT mk M.steps 0 = false := by
              rw [ec, Bool.and_eq_false_iff]
              left
              unfold closed1J
              rw [er]
              have : ¬ (rs.all fun p => decide ((⟨st.s, st.l, p.1, p.2⟩ : Ent) ∈ TT)) = true := fun z => hin (by simpa using List.all_eq_true.mp z b0 (List.mem_of_getElem? hb0))
              exact Bool.eq_false_iff.mpr this
            rw [← this]
            exact k _ (s23.trans s4)
        · rintro σ H3 ⟨s3, o6, o7, o8, o9, o10, rfl, eall⟩
          rw [← hrs.len, List.take_length] at eall
          refine ⟨sm2.trans s3, ⟨_, _, _, _, _, _, _, _, rfl⟩, ?_⟩
          rw [ec]
          have : closed1J TT st (mk i) = true := by unfold closed1J; rw [er]; exact eall
          rw [this, Bool.true_and]
    · rintro σ H' ⟨sm, ⟨o3, o4, o5, o6, o7, o8, o9, o10, rfl⟩, ec⟩
      rw [← hsr.len, List.drop_length] at ec
      simp only [closedJ] at ec
      refine s_ret val_c ?_
      rw [← ec]
      exact k _ sm
end
end PW
end

section
set_option Elab.async false
set_option maxRecDepth 100000
set_option maxHeartbeats 4000000
set_option linter.all false
/-! Walks: Table.edges_of, are_entries, are_ranks. -/
namespace PW
open PySem L2 PX PR
section
variable {P : Program} {w : World} {K : PySem.W.Frag} {mg : Str → Option Value} {base : Heap} {c : Cs}
def spTbEdges (P : Program) (w : World) (c : Cs) : Sp := fun vs H Q _ => ∃ (T : List Ent) (a : Addr) (sv : V) (st : Stp) (b : Bool), vs = [.ref a, sv, .bl b] ∧ TbAt P w c H a T ∧ stepR c H st sv ∧ st.laid.length ≤ 2 ∧ T.length ≤ 200 ∧
  ∀ p ys H', Same H H' → H p = none → H' p = some (.lst ys) → All wkR H' (edgesJ T st b) ys → Q (.ref p) H'
theorem sc_tbEdges : FnScope ["self", "step", "is_marked", "found", "goal", "flag"] ["self", "step", "is_marked"] (defScope sTbEdges) := ⟨rfl, rfl, rfl, by decide +kernel, rfl, by decide +kernel, by decide +kernel⟩
theorem ok_tbEdges (T : Txt K mg c) {f : Addr} {fd : FuncData} (F : Fun K "edges_of" "Table.edges_of" sTbEdges f fd) : FnOk P w K mg base CX0 2 f fd ["self", "step", "is_marked"] (spTbEdges P w c) := by
  obtain ⟨f2, fd2, F2, b2, m2⟩ := T.tbFrom
  have G2 : FnOk P w K mg base CX0 1 f2 fd2 ["self", "state", "letter"] (spTbFrom P w c) := ok_tbFrom T F2
  refine F.ok sc_tbEdges (fun vs H Q E h => ?_) (fun cdv A outer s H vs Q E hr h => ?_)
  · obtain ⟨TT, a, sv, st, b, rfl, _⟩ := h
    rfl
  · obtain ⟨TT, a, sv, st, b, rfl, tb, ⟨sa, sd, tl, rfl, hsa, htl⟩, hl2, hTl, k⟩ := h
    have hu := hu_of hr
    refine ⟨_, (pss_cons (ps_if (pt_cmpR op_eq (pe_callB call_len_seq (by rfl) T.b PySem.boot_len (pa_cons (pe_fld (pv 1) rfl) pa_nil)) pe_int (nomark _))
          (pss_one (ps_ret (pe_lst pa_nil)))
          pss_nil)
      (pss_cons (ps_set (i := 3) sc_tbEdges.nd rfl (by first | exact Or.inl rfl | exact Or.inr rfl) (pe_lst (pa_cons (pe_tup (pa_cons (pe_tup (pa_cons (pe_fld (pv 1) rfl) (pa_cons (pe_ix ix_tup (pe_fld (pv 1) rfl) pe_int (fun _ _ => rfl)) pa_nil))) (pa_cons (pv 2) pa_nil))) pa_nil)))
      (pss_cons (ps_if (pt_cmpR op_eq (pe_callB call_len_seq (by rfl) T.b PySem.boot_len (pa_cons (pe_fld (pv 1) rfl) pa_nil)) pe_int (nomark _))
          (pss_one (ps_for PassesOwn.never rfl (pi_list (pe_meth (pv 0) T.tb.cl m2 G2 hr b2 .nil pass0 (pa_cons (pe_fld (pv 1) rfl) (pa_cons (pe_ix ix_tup (pe_fld (pv 1) rfl) pe_int (fun _ _ => rfl)) pa_nil)))) (pg_tup rfl (pgs_cons (pg_name (i := 4) sc_tbEdges.nd rfl (by first | exact Or.inl rfl | exact Or.inr rfl)) (pgs_cons (pg_name (i := 5) sc_tbEdges.nd rfl (by first | exact Or.inl rfl | exact Or.inr rfl)) pgs_nil)))
              (pss_one (ps_expr (pe_bm PySem.F.plainAttrs_list PySem.F.slot_list_append PySem.F.type_list_append mt_append (pv 3) (pa_cons (pe_tup (pa_cons (pe_tup (pa_cons (pv 4) (pa_cons (pe_ix ix_tup (pe_fld (pv 1) rfl) pe_int (fun _ _ => rfl)) pa_nil))) (pa_cons (pe_or (pv 2) (pe_one (pv 5))) pa_nil))) pa_nil))))))
          pss_nil)
      (pss_one (ps_ret (pv 3)))))), ?_⟩
    have vlaid : ∀ {σ : L2.St} {H' : Hp}, Same H H' → σ[1]? = some (some (.ref sa)) → Val (tFld K (tVar 1) "laid") σ H' (.ref tl) := fun sm e => st_fld T (sm _ _ hsa) (val_var e) (by simp) (stepF_laid _ _)
    refine q_when (b := decide (V.int ((st.laid.map V.int).length : Nat) = V.int 0)) (a_test (v_eq (v_len (vlaid (Same.refl H) rfl) (.inr (SqT.of htl))) val_c rfl)) (fun hb => ?_) (fun hb => ?_)
    · have hl : st.laid = [] := by
        have z : ((st.laid.length : Nat) : Int) = 0 := by simpa [dec_V] using hb
        exact List.length_eq_zero_iff.mp (by omega)
      refine s_retE (t_lst va_nil fun p hp => k p [] _ (sm_up hp) hp upd_same ?_)
      unfold edgesJ; rw [hl]; exact .nil
    · obtain ⟨l0, lr, hl⟩ : ∃ a r, st.laid = a :: r := by
        cases q : st.laid with
        | nil => rw [q] at hb; simp at hb
        | cons a r => exact ⟨a, r, rfl⟩
      have htl' : H tl = some (.tup (V.int l0 :: lr.map V.int)) := by rw [htl, hl]; rfl
      have vl : ∀ {σ : L2.St} {H' : Hp}, Same H H' → σ[1]? = some (some (.ref sa)) → Val (tOp (rIxT K) (tFld K (tVar 1) "laid") (tC (.int 0))) σ H' (.int l0) := fun sm e =>
        v_ixT (vlaid sm e) val_c (sm _ _ htl') (atI_nat (j := 0) rfl)
      refine q_asg (t_lstE (tcons_E (t_tupE (tcons_E (t_tup (va_cons (st_fld T hsa (val_var rfl) (by simp) (stepF_goal _ _)) (va_cons (vl (Same.refl H) rfl) va_nil)) fun p1 hp1 => ?_)))))
      refine val_var rfl _ ⟨by show 2 ≤ sizeLine; decide, fun p2 hp2 => ⟨by show 1 ≤ sizeLine; decide, fun q hq => ?_⟩⟩
      have s1 : Same H _ := sm_new (o := .lst [.ref p2]) (sm_new (o := .tup [.ref p1, .bl b]) (sm_new (o := .tup [.int st.g, .int l0]) (Same.refl H) hp1) hp2) hq
      have e1 : wkR (upd (upd (upd H p1 (.tup [.int st.g, .int l0])) p2 (.tup [.ref p1, .bl b])) q (.lst [.ref p2])) ((st.g, l0), b) (.ref p2) :=
        ⟨p2, .ref p1, .bl b, rfl, sm_up hq _ _ upd_same, ⟨p1, rfl, sm_up hq _ _ (sm_up hp2 _ _ upd_same)⟩, rfl⟩
      have eq1 : (upd (upd (upd H p1 (.tup [.int st.g, .int l0])) p2 (.tup [.ref p1, .bl b])) q (.lst [.ref p2])) q = some (.lst [.ref p2]) := upd_same
      have hq0 : H q = none := (sm_up hp1).free ((sm_up hp2).free hq)
      generalize (upd (upd (upd H p1 (.tup [.int st.g, .int l0])) p2 (.tup [.ref p1, .bl b])) q (.lst [.ref p2])) = H1 at s1 e1 eq1
      refine q_when (b := decide (V.int ((st.laid.map V.int).length : Nat) = V.int 2)) (a_test (v_eq (v_len (vlaid s1 rfl) (.inr (SqT.of (s1 _ _ htl)))) val_c rfl)) (fun hb2 => ?_) (fun hb2 => ?_)
      · obtain ⟨l1, hlr⟩ : ∃ b, lr = [b] := by
          have z : ((st.laid.length : Nat) : Int) = 2 := by simpa [dec_V] using hb2
          rw [hl] at z
          cases lr with
          | nil => simp at z
          | cons b t =>
            cases t with
            | nil => exact ⟨b, rfl⟩
            | cons c t => exfalso; simp at z; omega
        subst hlr
        have ee : edgesJ TT st b = [((st.g, l0), b)] ++ (fromJ TT (st.g, l0)).map fun q => ((q.1, l1), b || q.2) := by unfold edgesJ; rw [hl]; rfl
        obtain ⟨dx, kd, bd, h1, h2, h3⟩ := tb.mono (.same s1)
        refine s_listE (e_methE (val_var rfl) h1 (tbF_no _ _ (by decide +kernel) (by decide +kernel)) (v_cons (st_fld T (s1 _ _ hsa) (val_var rfl) (by simp) (stepF_goal _ _)) (v_cons (vl s1 rfl) (v_nil ⟨TT, a, st.g, l0, rfl, ⟨dx, kd, bd, h1, h2, h3⟩, fun q2 zs H2 s2 hq2 hq22 hzs => ?_⟩))))
        have nq : q ≠ q2 := fun z => by rw [← z, eq1] at hq2; cases hq2
        refine ⟨q2, rfl, ⟨zs, SqL.of hq22⟩, lpL (xs := zs) (fun j σ H' => Same H H' ∧ Tp H2 H' ∧ H' q2 = some (.lst zs) ∧ (∃ o4 o5, σ = [some (.ref a), some (.ref sa), some (.bl b), some (.ref q), o4, o5]) ∧ ∃ acc, H' q = some (.lst acc) ∧ All wkR H' ([((st.g, l0), b)] ++ ((fromJ TT (st.g, l0)).map fun q => ((q.1, l1), b || q.2)).take j) acc)
          ⟨s1.trans s2, Tp.refl _, hq22, ⟨_, _, rfl⟩, _, s2 _ _ eq1, .cons (wkR_m.mono (.same s2) e1) .nil⟩ (fun j σ H' p => SqL.of p.2.2.1) ?_ ?_⟩
        · rintro j x σ H3 hx ⟨s3, t3, h3q, ⟨o4, o5, rfl⟩, acc, hacc, racc⟩
          obtain ⟨qq, hqq, xa, rfl, hxa⟩ := hzs.get' hx
          have hj := (List.getElem?_eq_some_iff.mp hqq).1
          refine g_two (t3 _ _ hxa) ?_
          refine s_append (val_var rfl) hacc (t_tupE (tcons_E (t_tup (va_cons (val_var rfl) (va_cons (v_ixT (vlaid s3 rfl) val_c (s3 _ _ htl') (atI_nat (j := 1) rfl)) va_nil)) fun b4 hb4 => ?_)))
          refine v_or (val_var rfl) (fun _ => val_var rfl) _ ⟨by show 2 ≤ sizeLine; decide, fun b5 hb5 => ?_⟩
          have s5 : Same H3 (upd (upd H3 b4 (.tup [.int qq.1, .int l1])) b5 (.tup [.ref b4, .bl (b || qq.2)])) := sm_new (sm_up hb4) hb5
          have nq5 : q ≠ b5 := ne_of_none (sm_up hb4 _ _ hacc) hb5
          have e5 : wkR (upd (upd H3 b4 (.tup [.int qq.1, .int l1])) b5 (.tup [.ref b4, .bl (b || qq.2)])) ((qq.1, l1), b || qq.2) (.ref b5) := ⟨b5, _, _, rfl, upd_same, ⟨b4, rfl, sm_up hb5 _ _ upd_same⟩, rfl⟩
          have hacc5 := s5 _ _ hacc
          refine ⟨acc, hacc5, ?_, ?_⟩
          · have := racc.len
            have f1 := fromJ_len TT (st.g, l0)
            simp only [List.length_append, List.length_take, List.length_map] at this
            refine big5 ?_
            simp at this
            omega
          · have tp := Tp.lst (o := .lst (acc ++ [.ref b5])) hacc5
            refine ⟨sm_own (s3.trans s5) hq0, (t3.trans (.same s5)).trans tp, by rw [upd_ne nq.symm]; exact s5 _ _ h3q, ⟨_, _, rfl⟩, _, upd_same, ?_⟩
            rw [take_succ' (b := ((qq.1, l1), b || qq.2)) (by rw [List.getElem?_map, hqq]; rfl), ← List.append_assoc]
            exact (racc.mono wkR_m ((Tp.same s5).trans tp)).snoc (wkR_m.mono tp e5)
        · rintro σ H3 ⟨s3, t3, h3q, ⟨o4, o5, rfl⟩, acc, hacc, racc⟩
          refine s_ret (val_var rfl) (k q acc _ s3 hq0 hacc ?_)
          rw [ee]
          have e : zs.length = ((fromJ TT (st.g, l0)).map fun q => ((q.1, l1), b || q.2)).length := by rw [List.length_map, hzs.len]
          rw [e, List.take_length] at racc
          exact racc
      · refine s_ret (val_var rfl) (k q _ _ s1 hq0 eq1 ?_)
        have : edgesJ TT st b = [((st.g, l0), b)] := by
          unfold edgesJ
          rw [hl]
          cases lr with
          | nil => rfl
          | cons b t =>
            cases t with
            | nil => rw [hl] at hb2; simp at hb2
            | cons c t => rfl
        rw [this]
        exact .cons e1 .nil
end
end PW
end

section
set_option Elab.async false
set_option maxRecDepth 100000
set_option maxHeartbeats 4000000
set_option linter.all false
/-! Walks: are_entries, are_ranks. -/
namespace PW
open PySem L2 PX PR
section
variable {P : Program} {w : World} {K : PySem.W.Frag} {mg : Str → Option Value} {base : Heap} {c : Cs}
def spEntries (c : Cs) : Sp := fun vs H Q _ => ∃ (M : Mach) (m ev : V) (T : List Ent), vs = [m, ev] ∧ machR c H M m ∧ tupR entR H T ev ∧ T.length ≤ 1000 ∧ ∀ H', Same H H' → Q (.bl (entsOkJ M T)) H'
theorem sc_entries : FnScope ["machine", "entries", "row"] ["machine", "entries"] (defScope sEntries) := ⟨rfl, rfl, rfl, by decide +kernel, rfl, by decide +kernel, by decide +kernel⟩
theorem all_bls {H : Hp} : ∀ {bs : List Bool} {ys : List V}, All blR H bs ys → ys = bs.map V.bl
  | _, _, .nil => rfl
  | _, _, .cons h t => by rw [List.map_cons, ← all_bls t]; exact congrArg (· :: _) h
theorem ok_entries (T : Txt K mg c) {f : Addr} {fd : FuncData} (F : Fun K "are_entries" "are_entries" sEntries f fd) : FnOk P w K mg base CX0 2 f fd ["machine", "entries"] (spEntries c) := by
  obtain ⟨f1, fd1, F1, b1, m1⟩ := T.isHead
  have G1 : FnOk P w K mg base CX0 1 f1 fd1 ["machine", "state", "letter"] (spIsHead c) := ok_isHead T F1
  refine F.ok sc_entries (fun vs H Q E h => ?_) (fun cdv A outer s H vs Q E hr h => ?_)
  · obtain ⟨M, m, ev, TT, rfl, _⟩ := h
    rfl
  · obtain ⟨M, m, ev, TT, rfl, hm, ⟨et, xs, rfl, het, hxs⟩, hl, k⟩ := h
    have hu := hu_of hr
    refine ⟨_, (pss_one (ps_ret (pe_callB (cr_all rfl) (by rfl) T.b (by decide +kernel) (pa_cons (pe_lc (own := [("row", 2)]) (tt := tYes) (te := tAndV (tCall (spIsHead c) [] _ (tCons (tVar 0) (tCons (tOp (rIxT K) (tVar 2) (tC (.int 0))) (tCons (tOp (rIxT K) (tVar 2) (tC (.int 1))) tNil)))) (tCall (spIsHead c) [] _ (tCons (tVar 0) (tCons (tOp (rIxT K) (tVar 2) (tC (.int 2))) (tCons (tC (.int 0)) tNil))))) rfl sc_entries.nd (pi_tup (pv 1)) (blkOk_by (N := ["machine", "entries", "row"]) (sc := defScope sEntries) (by decide +kernel)) (fun _ _ _ _ _ => (pg_name (i := 2) sc_entries.nd rfl (by first | exact Or.inl rfl | exact Or.inr rfl))) (fun _ _ _ _ _ => pts_nil) (fun _ _ _ _ _ => (pe_and (pe_call G1 hr (by rfl) m1 F1.kp b1 .nil pass0 (pa_cons (pv 0) (pa_cons (pe_ix ix_tup (pv 2) pe_int (fun _ _ => rfl)) (pa_cons (pe_ix ix_tup (pv 2) pe_int (fun _ _ => rfl)) pa_nil)))) (pe_one (pe_call G1 hr (by rfl) m1 F1.kp b1 .nil pass0 (pa_cons (pv 0) (pa_cons (pe_ix ix_tup (pv 2) pe_int (fun _ _ => rfl)) (pa_cons pe_int pa_nil)))))))) pa_nil)))), ?_⟩
    refine s_retE (tcons_E (e_lcT blR blR_m (TT.map fun e => isHeadJ M e.s e.l && isHeadJ M e.g 0) (val_var rfl) het (by rw [List.length_map, hxs.len]) (by rw [← hxs.len]; omega) (fun i x b H' Q' hx hb sm kq => ?_) fun Dd H' acc sm hD hD2 hacc => ?_))
    · obtain ⟨e, he, xa, rfl, hxa⟩ := hxs.get' hx
      rw [List.getElem?_map, he] at hb
      cases hb
      have hxa' := sm _ _ hxa
      have hm' := machR_m.mono (.same sm) hm
      refine ⟨rfl, e_andE (e_call (va_cons (val_var rfl) (va_cons (v_ixT (val_var rfl) val_c hxa' (atI_nat (j := 0) rfl)) (va_cons (v_ixT (val_var rfl) val_c hxa' (atI_nat (j := 1) rfl)) va_nil))) ⟨M, m, e.s, e.l, rfl, hm', _, rfl, ?_⟩)⟩
      cases hh : isHeadJ M e.s e.l with
      | true => exact iteT (e_call (va_cons (val_var rfl) (va_cons (v_ixT (val_var rfl) val_c hxa' (atI_nat (j := 2) rfl)) (va_cons val_c va_nil))) ⟨M, m, e.g, 0, rfl, hm', kq _ _ (Same.refl _) (by simp [hh, blR])⟩)
      | false => exact iteF (kq _ _ (Same.refl _) (by simp [hh, blR]))
    · have e := all_bls hacc
      subst e
      refine ⟨Dd, _, rfl, SqL.of hD2, ?_⟩
      have : ((TT.map fun e => isHeadJ M e.s e.l && isHeadJ M e.g 0).all id) = entsOkJ M TT := by unfold entsOkJ; rw [List.all_map]; rfl
      rw [this]
      exact k _ sm
/-! ### are_ranks -/
abbrev rkR : Rp (Hd × Int) := prR hdR intR
theorem rkR_m : MonoT rkR := prR_m keyR_m intR_m
theorem ascJ_of : ∀ {R : List (Hd × Int)}, (∀ j a b, R[j]? = some a → R[j + 1]? = some b → hdLt a.1 b.1 = true) → ascJ R = true
  | [], _ => rfl
  | [_], _ => rfl
  | a :: b :: r, h => by
    simp only [ascJ, Bool.and_eq_true]
    exact ⟨h 0 a b rfl rfl, ascJ_of fun j x y h1 h2 => h (j + 1) x y (by simpa using h1) (by simpa using h2)⟩
theorem ascJ_at : ∀ {R : List (Hd × Int)}, ascJ R = true → ∀ {j : Nat} {a b : Hd × Int}, R[j]? = some a → R[j + 1]? = some b → hdLt a.1 b.1 = true
  | [], _, _, _, _, h1, _ => by simp at h1
  | [_], _, j, _, _, h1, h2 => by simp at h2
  | a :: b :: r, h, j, x, y, h1, h2 => by
    simp only [ascJ, Bool.and_eq_true] at h
    cases j with
    | zero => simp at h1 h2; subst h1 h2; exact h.1
    | succ j => exact ascJ_at h.2 (j := j) (by simpa using h1) (by simpa using h2)
theorem lexLt_hd (a b : Hd) : HT.lexLt [a.1, a.2] [b.1, b.2] = hdLt a b := by
  obtain ⟨a1, a2⟩ := a
  obtain ⟨b1, b2⟩ := b
  simp only [HT.lexLt, hdLt]
  by_cases h : a1 = b1
  · subst h
    by_cases h2 : a2 = b2
    · subst h2; simp
    · simp [h2]
  · simp [h]
theorem v_ltH {σ : L2.St} {H : Hp} {ta tb : TE} {a b : Addr} {x y : Hd} (ha : Val ta σ H (.ref a)) (hb : Val tb σ H (.ref b)) (ea : H a = some (.tup (DKey.vs x))) (eb : H b = some (.tup (DKey.vs y))) : Val (tOp (rLtT K) ta tb) σ H (.bl (hdLt x y)) :=
  val_op ha hb fun Q q => ⟨a, b, [x.1, x.2], [y.1, y.2], rfl, rfl, SqT.of ea, SqT.of eb, by rw [lexLt_hd]; exact q⟩
def spRanks (c : Cs) : Sp := fun vs H Q _ => ∃ (M : Mach) (m rv : V) (R : List (Hd × Int)), vs = [m, rv] ∧ machR c H M m ∧ tupR rkR H R rv ∧ R.length ≤ 1000 ∧ ∀ H', Same H H' → Q (.bl (ranksOkJ M R)) H'
theorem sc_ranks : FnScope ["machine", "ranks", "i", "head", "number"] ["machine", "ranks"] (defScope sRanks) := ⟨rfl, rfl, rfl, by decide +kernel, rfl, by decide +kernel, by decide +kernel⟩
theorem ranks_false {M : Mach} {R : List (Hd × Int)} {j : Nat} {p : Hd × Int} (hp : R[j]? = some p) (h : (decide (0 ≤ p.2) && isHeadJ M p.1.1 p.1.2) = false) : ranksOkJ M R = false := by
  unfold ranksOkJ
  rw [Bool.and_eq_false_iff]
  left
  refine Bool.eq_false_iff.mpr fun z => ?_
  have := List.all_eq_true.mp z p (List.mem_of_getElem? hp)
  rw [this] at h
  cases h
theorem ok_ranks (T : Txt K mg c) {f : Addr} {fd : FuncData} (F : Fun K "are_ranks" "are_ranks" sRanks f fd) : FnOk P w K mg base CX0 2 f fd ["machine", "ranks"] (spRanks c) := by
  obtain ⟨f1, fd1, F1, b1, m1⟩ := T.isHead
  have G1 : FnOk P w K mg base CX0 1 f1 fd1 ["machine", "state", "letter"] (spIsHead c) := ok_isHead T F1
  refine F.ok sc_ranks (fun vs H Q E h => ?_) (fun cdv A outer s H vs Q E hr h => ?_)
  · obtain ⟨M, m, rv, R, rfl, _⟩ := h
    rfl
  · obtain ⟨M, m, rv, R, rfl, hm, ⟨rt, xs, rfl, hrt, hxs⟩, hl, k⟩ := h
    have hu := hu_of hr
    refine ⟨_, (pss_cons (ps_for PassesOwn.never rfl (pi_range1 (by rfl) T.b (pa_cons (pe_callB call_len_seq (by rfl) T.b PySem.boot_len (pa_cons (pv 1) pa_nil)) pa_nil)) (pg_name (i := 2) sc_ranks.nd rfl (by first | exact Or.inl rfl | exact Or.inr rfl))
          (pss_cons (ps_asg (pe_ix ix_tup (pv 1) (pv 2) (fun _ _ => rfl)) (pg_tup rfl (pgs_cons (pg_name (i := 3) sc_ranks.nd rfl (by first | exact Or.inl rfl | exact Or.inr rfl)) (pgs_cons (pg_name (i := 4) sc_ranks.nd rfl (by first | exact Or.inl rfl | exact Or.inr rfl)) pgs_nil))))
            (pss_cons (ps_if (PW.pt (pw_or (pt_cmpR op_lt (pv 4) pe_int (nomark _)) (pw_or1 (pt_not (pt_val (pe_call G1 hr (by rfl) m1 F1.kp b1 .nil pass0 (pa_cons (pv 0) (pa_cons (pe_ix ix_tup (pv 3) pe_int (fun _ _ => rfl)) (pa_cons (pe_ix ix_tup (pv 3) pe_int (fun _ _ => rfl)) pa_nil)))))))))
                (pss_one (ps_ret pe_bl))
                pss_nil)
            (pss_one (ps_if (PW.pt (pw_and (pt_cmpR op_gt (pv 2) pe_int (nomark _)) (pw_and1 (pt_not (pt_cmpR (op_ltT (Nat.lt_of_succ_lt hu)) (pe_ix ix_tup (pe_ix ix_tup (pv 1) (pe_op op_sub (pv 2) pe_int) (fun _ _ => rfl)) pe_int (fun _ _ => rfl)) (pv 3) (nomark _))))))
                (pss_one (ps_ret pe_bl))
                pss_nil)))))
      (pss_one (ps_ret pe_bl))), ?_⟩
    refine q_range1 (n := xs.length) (by rw [← hxs.len]; omega) (v_len (val_var rfl) (.inr (SqT.of hrt))) (fun i σ H' => H' = H ∧ (∃ o2 o3 o4, σ = [some m, some (.ref rt), o2, o3, o4]) ∧ (∀ j p, j < i → R[j]? = some p → (decide (0 ≤ p.2) && isHeadJ M p.1.1 p.1.2) = true) ∧ ∀ j a b, j + 1 < i → R[j]? = some a → R[j + 1]? = some b → hdLt a.1 b.1 = true)
      ⟨rfl, ⟨_, _, _, rfl⟩, fun j p hj => absurd hj (Nat.not_lt_zero _), fun j a b hj => absurd hj (Nat.not_lt_zero _)⟩ ?_ ?_
    · rintro i σ H' hi ⟨rfl, ⟨o2, o3, o4, rfl⟩, h1, h2⟩
      obtain ⟨x, hx⟩ : ∃ x, xs[i]? = some x := ⟨_, List.getElem?_eq_getElem hi⟩
      obtain ⟨p, hp, pa, y, z, rfl, hpa, ⟨ha, rfl, hha⟩, rfl⟩ := hxs.get' hx
      refine g_name ?_
      refine v_ixT (val_var rfl) (val_var rfl) hrt (atI_nat hx) _ (g_two hpa ?_)
      refine q_whenE (a_orE (a_test (v_lt (val_var rfl) val_c) _ ?_))
      by_cases hn : p.2 < 0
      · rw [decide_eq_true hn]
        refine iteT (iteT (s_ret val_c ?_))
        have : ranksOkJ M R = false := ranks_false hp (by simp; omega)
        rw [← this]
        exact k _ (Same.refl _)
      · rw [decide_eq_false hn]
        refine iteF (a_notE (a_bE (e_call (va_cons (val_var rfl) (va_cons (v_ixT (val_var rfl) val_c hha (atI_nat (j := 0) rfl)) (va_cons (v_ixT (val_var rfl) val_c hha (atI_nat (j := 1) rfl)) va_nil))) ⟨M, m, p.1.1, p.1.2, rfl, hm, _, rfl, ?_⟩)))
        cases hh : isHeadJ M p.1.1 p.1.2 with
        | false =>
          refine iteT (s_ret val_c ?_)
          have : ranksOkJ M R = false := ranks_false hp (by simp [hh])
          rw [← this]
          exact k _ (Same.refl _)
        | true =>
          refine iteF (s_ifE (a_andE (a_test (v_gt (val_var rfl) val_c) _ ?_)))
          have hnew : ∀ j q, j < i + 1 → R[j]? = some q → (decide (0 ≤ q.2) && isHeadJ M q.1.1 q.1.2) = true := fun j q hj hq => by
            rcases Nat.lt_succ_iff_lt_or_eq.mp hj with hj | rfl
            · exact h1 j q hj hq
            · rw [hp] at hq; cases hq; simp [hh]; omega
          cases i with
          | zero =>
            refine iteF (iteF ?_)
            exact ⟨rfl, ⟨_, _, _, rfl⟩, hnew, fun j a b hj => by omega⟩
          | succ i =>
            obtain ⟨x', hx'⟩ : ∃ x, xs[i]? = some x := ⟨_, List.getElem?_eq_getElem (by omega)⟩
            obtain ⟨p', hp', pa', y', z', rfl, hpa', ⟨ha', rfl, hha'⟩, rfl⟩ := hxs.get' hx'
            rw [decide_eq_true (by omega : (0 : Int) < ((i + 1 : Nat) : Int))]
            refine iteT (a_notE (a_test (v_ltH (v_ixT (v_ixT (val_var rfl) (v_sub (val_var rfl) val_c) hrt (by rw [show ((i + 1 : Nat) : Int) - 1 = (i : Nat) by omega]; exact atI_nat hx')) val_c hpa' (atI_nat (j := 0) rfl)) (val_var rfl) hha' hha) _ ?_))
            cases hlt : hdLt p'.1 p.1 with
            | false =>
              refine iteT (s_ret val_c ?_)
              have : ranksOkJ M R = false := by
                unfold ranksOkJ
                rw [Bool.and_eq_false_iff]
                right
                refine Bool.eq_false_iff.mpr fun z => ?_
                rw [ascJ_at z hp' hp] at hlt
                cases hlt
              rw [← this]
              exact k _ (Same.refl _)
            | true =>
              refine iteF ⟨rfl, ⟨_, _, _, rfl⟩, hnew, fun j a b hj ha hb => ?_⟩
              by_cases e : j = i
              · subst e
                rw [hp'] at ha
                rw [hp] at hb
                cases ha
                cases hb
                exact hlt
              · exact h2 j a b (by omega) ha hb
    · rintro σ H' ⟨rfl, ⟨o2, o3, o4, rfl⟩, h1, h2⟩
      refine s_ret val_c ?_
      have : ranksOkJ M R = true := by
        unfold ranksOkJ
        rw [Bool.and_eq_true]
        refine ⟨List.all_eq_true.mpr fun p hp => ?_, ascJ_of fun j a b ha hb => h2 j a b (by have := (List.getElem?_eq_some_iff.mp hb).1; rw [← hxs.len]; exact this) ha hb⟩
        obtain ⟨j, hj⟩ := List.mem_iff_getElem?.mp hp
        exact h1 j p (by have := (List.getElem?_eq_some_iff.mp hj).1; rw [← hxs.len]; exact this) hj
      rw [← this]
      exact k _ (Same.refl _)
end
end PW
end

section
set_option Elab.async false
set_option maxRecDepth 100000
set_option maxHeartbeats 4000000
set_option linter.all false
/-! Walks: falls, has_starts. -/
namespace PW
open PySem L2 PX PR
section
variable {P : Program} {w : World} {K : PySem.W.Frag} {mg : Str → Option Value} {base : Heap} {c : Cs}
/-- the dict of ranks -/
def RkAt (P : Program) (w : World) (H : Hp) (d : Addr) (R : List (Hd × Int)) : Prop := ∃ kvs : List (Hd × V), DX P w H d kvs ∧ ∀ h, valV kvs h = (rankOf R h).map V.int
theorem RkAt.mono {H H' : Hp} {d : Addr} {R : List (Hd × Int)} (e : Lx H H') (h : RkAt P w H d R) : RkAt P w H' d R := let ⟨kvs, h1, h2⟩ := h; ⟨kvs, h1.mono e, h2⟩
def spFalls (P : Program) (w : World) (c : Cs) : Sp := fun vs H Q _ => ∃ (M : Mach) (mk : Int → Bool) (T : List Ent) (R : List (Hd × Int)) (m : V) (md tb bh : Addr), vs = [m, .ref md, .ref tb, .ref bh] ∧ machR c H M m ∧ MarksAt mk H md ∧ TbAt P w c H tb T ∧ RkAt P w H bh R ∧ (∀ p ∈ M.steps, p.laid.length ≤ 2) ∧ T.length ≤ 200 ∧
  ∀ H', Same H H' → Q (.bl (fallsJ T R mk M.steps 0)) H'
theorem sc_falls : FnScope ["machine", "marks", "table", "by_head", "index", "step", "head", "end", "flag"] ["machine", "marks", "table", "by_head"] (defScope sFalls) := ⟨rfl, rfl, rfl, by decide +kernel, rfl, by decide +kernel, by decide +kernel⟩
theorem e_int {σ : L2.St} {H : Hp} {te : TE} {b : Bool} {r : List V → Hp → VK → Prop} (h : Val te σ H (.bl b)) (hr : ∀ Q : VK, Q (.int (b2i b)) H → r [.bl b] H Q) : Val (tCB r (tCons te tNil)) σ H (.int (b2i b)) := fun Q q => h _ (hr Q q)
theorem ok_falls (T : Txt K mg c) {f : Addr} {fd : FuncData} (F : Fun K "falls" "falls" sFalls f fd) : FnOk P w K mg base CX0 3 f fd ["machine", "marks", "table", "by_head"] (spFalls P w c) := by
  obtain ⟨f2, fd2, F2, b2, m2⟩ := T.tbEdges
  have G2 : FnOk P w K mg base CX0 2 f2 fd2 ["self", "step", "is_marked"] (spTbEdges P w c) := ok_tbEdges T F2
  refine F.ok sc_falls (fun vs H Q E h => ?_) (fun cdv A outer s H vs Q E hr h => ?_)
  · obtain ⟨M, mk, TT, R, m, md, tb, bh, rfl, _⟩ := h
    rfl
  · obtain ⟨M, mk, TT, R, m, md, tb, bh, rfl, ⟨ma, mdx, mt, rfl, hma, sx, hsx, hsr⟩, hmk, htb, ⟨kvs, hkd, hkv⟩, hlaid, hTl, k⟩ := h
    have hu := hu_of hr
    refine ⟨_, (pss_cons (ps_for PassesOwn.never rfl (pi_enumT (by rfl) T.b (pa_cons (pe_fld (pv 0) rfl) pa_nil)) (pg_tup rfl (pgs_cons (pg_name (i := 4) sc_falls.nd rfl (by first | exact Or.inl rfl | exact Or.inr rfl)) (pgs_cons (pg_name (i := 5) sc_falls.nd rfl (by first | exact Or.inl rfl | exact Or.inr rfl)) pgs_nil)))
          (pss_cons (ps_set (i := 6) sc_falls.nd rfl (by first | exact Or.inl rfl | exact Or.inr rfl) (pe_tup (pa_cons (pe_fld (pv 5) rfl) (pa_cons (pe_fld (pv 5) rfl) pa_nil))))
            (pss_one (ps_if (pt_cmp (pc_xin Hd hu (pv 6) (pv 3)) (by rfl))
                (pss_one (ps_for PassesOwn.never rfl (pi_list (pe_meth (pv 2) T.tb.cl m2 G2 hr b2 .nil pass0 (pa_cons (pv 5) (pa_cons (pe_cmp (pc_din hu (pv 4) (pv 1)) (by rfl)) pa_nil)))) (pg_tup rfl (pgs_cons (pg_name (i := 7) sc_falls.nd rfl (by first | exact Or.inl rfl | exact Or.inr rfl)) (pgs_cons (pg_name (i := 8) sc_falls.nd rfl (by first | exact Or.inl rfl | exact Or.inr rfl)) pgs_nil)))
                    (pss_one (ps_if (PW.pt (pw_or (pt_cmp (pc_xnotin Hd hu (pv 7) (pv 3)) (by rfl)) (pw_or1 (pt_cmpR op_gt (pe_op op_add (pe_xget Hd hu (pv 3) (pv 7) (fun _ _ => rfl)) (pe_callTy call_int1 (by rfl) T.b (by decide +kernel) (pa_cons (pv 8) pa_nil))) (pe_xget Hd hu (pv 3) (pv 6) (fun _ _ => rfl)) (nomark _)))))
                        (pss_one (ps_ret pe_bl))
                        pss_nil))))
                pss_nil))))
      (pss_one (ps_ret pe_bl))), ?_⟩
    refine q_enumT (xs := sx) (ma_fld T hma (val_var rfl) (by simp) (machF_steps _ _)) (SqT.of hsx) (fun i σ H' => Same H H' ∧ (∃ o4 o5 o6 o7 o8, σ = [some (.ref ma), some (.ref md), some (.ref tb), some (.ref bh), o4, o5, o6, o7, o8]) ∧ fallsJ TT R mk M.steps 0 = fallsJ TT R mk (M.steps.drop i) i)
      ⟨Same.refl H, ⟨_, _, _, _, _, rfl⟩, rfl⟩ (fun i σ H' p => SqT.of (p.1 _ _ hsx)) ?_ ?_
    · rintro i x TP σ H' hx ⟨sm, ⟨o4, o5, o6, o7, o8, rfl⟩, ec⟩ hTP
      obtain ⟨st, hst, hstr⟩ := hsr.get' hx
      obtain ⟨sa, sd, tl, rfl, hsa, htl⟩ := id hstr
      rw [drop_at hst] at ec
      simp only [fallsJ] at ec
      have sm1 : Same H (upd H' TP (.tup [.int (i : Nat), .ref sa])) := sm_new sm hTP
      refine g_two upd_same ?_
      generalize upd H' TP (.tup [.int (i : Nat), .ref sa]) = H1 at sm1
      refine q_asgT (va_cons (st_fld T (sm1 _ _ hsa) (val_var rfl) (by simp) (stepF_state _ _)) (va_cons (st_fld T (sm1 _ _ hsa) (val_var rfl) (by simp) (stepF_letter _ _)) va_nil)) fun hp hhp => ?_
      have sm2 : Same H (upd H1 hp (.tup [.int st.s, .int st.l])) := sm_new sm1 hhp
      have hph : (upd H1 hp (.tup [.int st.s, .int st.l])) hp = some (.tup (DKey.vs ((st.s, st.l) : Hd))) := upd_same
      generalize upd H1 hp (.tup [.int st.s, .int st.l]) = H2 at sm2 hph
      refine s_ifE (a_testE (e_xin (k := ((st.s, st.l) : Hd)) (new1_val (val_var rfl) hph) (fun H3 s3 => val_var rfl) (hkd.mono (.same sm2)) fun H3 s3 => ⟨_, rfl, ?_⟩))
      have sm3 := sm2.trans s3
      have hph3 := s3 _ _ hph
      rw [hkv]
      cases er : rankOf R (st.s, st.l) with
      | none =>
        refine iteF ⟨sm3, ⟨_, _, _, _, _, rfl⟩, ?_⟩
        rw [ec]
        have : falls1J TT R st (mk i) = true := by unfold falls1J; rw [er]
        rw [this, Bool.true_and]
      | some r =>
        refine iteT ?_
        obtain ⟨dx, kd, bd, h1, h2, h3⟩ := htb.mono (.same sm3)
        refine s_listE (e_methE (val_var rfl) h1 (tbF_no _ _ (by decide +kernel) (by decide +kernel)) (v_cons (val_var rfl) (v_cons (v_in (val_var rfl) (val_var rfl) (hmk.mono (.same sm3))) (v_nil ⟨TT, tb, .ref sa, st, mk i, rfl, ⟨dx, kd, bd, h1, h2, h3⟩, stepR_m.mono (.same sm3) hstr, hlaid st (List.mem_of_getElem? hst), hTl, fun q ys H4 s4 hq hq4 hys => ?_⟩))))
        have sm4 := sm3.trans s4
        have hph4 := s4 _ _ hph3
        refine ⟨q, rfl, ⟨ys, SqL.of hq4⟩, lpL (xs := ys) (fun j σ H' => Same H4 H' ∧ (∃ o7 o8, σ = [some (.ref ma), some (.ref md), some (.ref tb), some (.ref bh), some (.int (i : Nat)), some (.ref sa), some (.ref hp), o7, o8]) ∧ ((edgesJ TT st (mk i)).take j).all (edgeOkJ R r) = true)
          ⟨Same.refl _, ⟨_, _, rfl⟩, rfl⟩ (fun j σ H' p => SqL.of (p.1 _ _ hq4)) ?_ ?_⟩
        · rintro j x σ H5 hx ⟨s5, ⟨o7, o8, rfl⟩, eall⟩
          obtain ⟨e, he, xa, x1, x2, rfl, hxa, ⟨eh, rfl, heh⟩, rfl⟩ := hys.get' hx
          refine g_two (s5 _ _ hxa) ?_
          have sm5 := sm4.trans s5
          have hd5 := hkd.mono (.same sm5)
          have bad : edgeOkJ R r e = false → fallsJ TT R mk M.steps 0 = false := fun z => by
            rw [ec, Bool.and_eq_false_iff]
            left
            unfold falls1J
            rw [er]
            refine Bool.eq_false_iff.mpr fun zz => ?_
            rw [List.all_eq_true.mp zz e (List.mem_of_getElem? he)] at z
            cases z
          refine s_ifE (a_orE (a_testE (e_xnin (k := e.1) (new1_val (val_var rfl) (s5 _ _ heh)) (fun H6 s6 => val_var rfl) hd5 fun H6 s6 => ⟨_, rfl, ?_⟩)))
          rw [hkv]
          have sm6 := sm5.trans s6
          cases er2 : rankOf R e.1 with
          | none =>
            refine iteT (iteT (s_ret val_c ?_))
            rw [← bad (by unfold edgeOkJ; rw [er2])]
            exact k _ sm6
          | some r' =>
            refine iteF ?_
            have g1 : valV kvs e.1 = some (.int r') := by rw [hkv, er2]; rfl
            have g2 : valV kvs (st.s, st.l) = some (.int r) := by rw [hkv, er]; rfl
            refine a_test (v_gt (v_add (v_xget (val_var rfl) (val_var rfl) (hd5.mono (.same s6)) (s6 _ _ (s5 _ _ heh)) g1) (e_int (val_var rfl) fun Q q => .inr ⟨e.2, rfl, q⟩)) (v_xget (k := ((st.s, st.l) : Hd)) (val_var rfl) (val_var rfl) (hd5.mono (.same s6)) (s6 _ _ (s5 _ _ hph4)) g2)) _ ?_
            by_cases hlt : r < r' + b2i e.2
            · rw [decide_eq_true hlt]
              refine iteT (s_ret val_c ?_)
              rw [← bad (by unfold edgeOkJ; rw [er2]; exact decide_eq_false (by omega))]
              exact k _ sm6
            · rw [decide_eq_false hlt]
              refine iteF ⟨s5.trans s6, ⟨_, _, rfl⟩, ?_⟩
              rw [take_succ' he, List.all_append, eall, Bool.true_and]
              simp [edgeOkJ, er2]
              omega
        · rintro σ H5 ⟨s5, ⟨o7, o8, rfl⟩, eall⟩
          rw [← hys.len, List.take_length] at eall
          refine ⟨sm4.trans s5, ⟨_, _, _, _, _, rfl⟩, ?_⟩
          rw [ec]
          have : falls1J TT R st (mk i) = true := by unfold falls1J; rw [er]; exact eall
          rw [this, Bool.true_and]
    · rintro σ H' ⟨sm, ⟨o4, o5, o6, o7, o8, rfl⟩, ec⟩
      rw [← hsr.len, List.drop_length] at ec
      simp only [fallsJ] at ec
      refine s_ret val_c ?_
      rw [← ec]
      exact k _ sm
end
end PW
end

section
set_option Elab.async false
set_option maxRecDepth 100000
set_option maxHeartbeats 4000000
set_option linter.all false
/-! Walks: has_starts. -/
namespace PW
open PySem L2 PX PR
section
variable {P : Program} {w : World} {K : PySem.W.Frag} {mg : Str → Option Value} {base : Heap} {c : Cs}
theorem foldl_app {α : Type} [DecidableEq α] (xs ys zs : List α) : (xs ++ ys).foldl ins zs = ys.foldl ins (xs.foldl ins zs) := List.foldl_append
theorem next_nodup (T : List Ent) (l : Int) (sts : List Int) : (nextJ T l sts).Nodup := foldl_ins_nodup List.nodup_nil
theorem goals_le (T : List Ent) {l : List Int} (h : l.Nodup) (hs : ∀ x ∈ l, x ∈ T.map (·.g)) : l.length ≤ T.length := by
  have := nodup_le h hs
  rwa [List.length_map] at this
theorem goals_in (T : List Ent) (l : Int) (ss : List Int) : ∀ x ∈ ss.flatMap (fun b => (fromJ T (b, l)).map (·.1)), x ∈ T.map (·.g) := by
  intro x hx
  obtain ⟨b, _, hb⟩ := List.mem_flatMap.mp hx
  obtain ⟨q, hq, rfl⟩ := List.mem_map.mp hb
  exact List.mem_map.mpr ⟨_, of_mem_fromJ hq, rfl⟩
def gsOf (T : List Ent) (l b : Int) : List Int := (fromJ T (b, l)).map (·.1)
theorem next_gs (T : List Ent) (l : Int) (sts : List Int) : nextJ T l sts = (sts.flatMap (gsOf T l)).foldl ins [] := rfl
def spStarts (P : Program) (w : World) (c : Cs) : Sp := fun vs H Q _ => ∃ (T : List Ent) (R : List (Hd × Int)) (cf : Int × List Int) (cv : V) (tb bh : Addr), vs = [.ref tb, .ref bh, cv] ∧ TbAt P w c H tb T ∧ RkAt P w H bh R ∧ cfgR H cf cv ∧ T.length ≤ 200 ∧
  ∀ H', Same H H' → Q (.bl (startsJ T R cf.2 [cf.1])) H'
theorem sc_starts : FnScope ["table", "by_head", "configuration", "state", "pile", "states", "letter", "after", "before", "goal", "_"] ["table", "by_head", "configuration"] (defScope sStarts) := ⟨rfl, rfl, rfl, by decide +kernel, rfl, by decide +kernel, by decide +kernel⟩
theorem ok_starts (T : Txt K mg c) {f : Addr} {fd : FuncData} (F : Fun K "has_starts" "has_starts" sStarts f fd) : FnOk P w K mg base CX0 2 f fd ["table", "by_head", "configuration"] (spStarts P w c) := by
  obtain ⟨f2, fd2, F2, b2, m2⟩ := T.tbFrom
  have G2 : FnOk P w K mg base CX0 1 f2 fd2 ["self", "state", "letter"] (spTbFrom P w c) := ok_tbFrom T F2
  refine F.ok sc_starts (fun vs H Q E h => ?_) (fun cdv A outer s H vs Q E hr h => ?_)
  · obtain ⟨TT, R, cf, cv, tb, bh, rfl, _⟩ := h
    rfl
  · obtain ⟨TT, R, cf, cv, tb, bh, rfl, htb, ⟨kvs, hkd, hkv⟩, ⟨ct, x, y, rfl, hct, rx, pt, ps, ry, hpt, hps⟩, hTl, k⟩ := h
    cases rx
    cases ry
    have hps' := all_ints hps
    subst hps'
    have hu := hu_of hr
    refine ⟨_, (pss_cons (ps_asg (pv 2) (pg_tup rfl (pgs_cons (pg_name (i := 3) sc_starts.nd rfl (by first | exact Or.inl rfl | exact Or.inr rfl)) (pgs_cons (pg_name (i := 4) sc_starts.nd rfl (by first | exact Or.inl rfl | exact Or.inr rfl)) pgs_nil))))
      (pss_cons (ps_set (i := 5) sc_starts.nd rfl (by first | exact Or.inl rfl | exact Or.inr rfl) (pe_lst (pa_cons (pv 3) pa_nil)))
      (pss_cons (ps_for PassesOwn.never rfl (pi_tup (pv 4)) (pg_name (i := 6) sc_starts.nd rfl (by first | exact Or.inl rfl | exact Or.inr rfl))
          (pss_cons (ps_set (i := 7) sc_starts.nd rfl (by first | exact Or.inl rfl | exact Or.inr rfl) pe_dnewK)
            (pss_cons (ps_for PassesOwn.never rfl (pi_list (pv 5)) (pg_name (i := 8) sc_starts.nd rfl (by first | exact Or.inl rfl | exact Or.inr rfl))
                (pss_cons (ps_if (pt_cmp (pc_xnotin Hd hu (pe_tup (pa_cons (pv 8) (pa_cons (pv 6) pa_nil))) (pv 1)) (by rfl))
                      (pss_one (ps_ret pe_bl))
                      pss_nil)
                  (pss_one (ps_for PassesOwn.never rfl (pi_list (pe_meth (pv 0) T.tb.cl m2 G2 hr b2 .nil pass0 (pa_cons (pv 8) (pa_cons (pv 6) pa_nil)))) (pg_tup rfl (pgs_cons (pg_name (i := 9) sc_starts.nd rfl (by first | exact Or.inl rfl | exact Or.inr rfl)) (pgs_cons (pg_name (i := 10) sc_starts.nd rfl (by first | exact Or.inl rfl | exact Or.inr rfl)) pgs_nil)))
                      (pss_one (ps_dput hu (pv 7) (pv 9) pe_bl rfl))))))
            (pss_one (ps_set (i := 5) sc_starts.nd rfl (by first | exact Or.inl rfl | exact Or.inr rfl) (pe_callTy (call_listD rfl) (by rfl) T.b (by decide +kernel) (pa_cons (pv 7) pa_nil)))))))
      (pss_one (ps_ret pe_bl))))), ?_⟩
    refine ⟨_, rfl, g_two hct ?_⟩
    refine q_asgL (va_cons (val_var rfl) va_nil) fun s0 hs0 => ?_
    refine q_tup (xs := cf.2.map V.int) (val_var rfl) (SqT.of (sm_up hs0 _ _ hpt)) (fun i σ H' => Same H H' ∧ ∃ (sts : List Int) (sl : Addr) (o6 o7 o8 o9 o10 : Option V), σ = [some (.ref tb), some (.ref bh), some (.ref ct), some (.int cf.1), some (.ref pt), some (.ref sl), o6, o7, o8, o9, o10] ∧ H' sl = some (.lst (sts.map V.int)) ∧ startsJ TT R cf.2 [cf.1] = startsJ TT R (cf.2.drop i) sts)
      ⟨sm_up hs0, [cf.1], s0, _, _, _, _, _, rfl, upd_same, rfl⟩ (fun i σ H' p => SqT.of (p.1 _ _ hpt)) ?_ ?_
    · rintro i x σ H1 hx ⟨sm1, sts, sl, o6, o7, o8, o9, o10, rfl, hsl, es⟩
      obtain ⟨l, hl, rfl⟩ := ints_get hx
      rw [drop_at hl] at es
      simp only [startsJ] at es
      refine g_name ?_
      refine q_asg (te := tDNewK) fun dd hdd => ?_
      have hdd0 : H dd = none := sm1.free hdd
      have nsl : sl ≠ dd := ne_of_none hsl hdd
      refine q_list (xs := sts.map V.int) (val_var rfl) (SqL.of (sm_up hdd _ _ hsl)) (fun j σ H' => Same H H' ∧ H' sl = some (.lst (sts.map V.int)) ∧ (∃ o8 o9 o10, σ = [some (.ref tb), some (.ref bh), some (.ref ct), some (.int cf.1), some (.ref pt), some (.ref sl), some (.int l), some (.ref dd), o8, o9, o10]) ∧
          IntD H' dd (((sts.take j).flatMap (gsOf TT l)).foldl ins []) ∧ ((sts.take j).all fun b => (rankOf R (b, l)).isSome) = true)
        ⟨sm_new sm1 hdd, sm_up hdd _ _ hsl, ⟨_, _, _, rfl⟩, ⟨[], upd_same, rfl⟩, rfl⟩ (fun j σ H' p => SqL.of p.2.1) ?_ ?_
      · rintro j x σ H2 hx ⟨sm2, hsl2, ⟨o8, o9, o10, rfl⟩, hdd2, eall⟩
        obtain ⟨b, hb, rfl⟩ := ints_get hx
        refine g_name ?_
        refine q_whenE (a_testE (e_xnin (k := ((b, l) : Hd)) (new1_tup (va_cons (val_var rfl) (va_cons (val_var rfl) va_nil))) (fun H3 s3 => val_var rfl) (hkd.mono (.same sm2)) fun H3 s3 => ⟨_, rfl, ?_⟩))
        have sm3 := sm2.trans s3
        rw [hkv]
        cases er : rankOf R (b, l) with
        | none =>
          refine iteT (s_ret val_c ?_)
          have : startsJ TT R cf.2 [cf.1] = false := by
            rw [es, Bool.and_eq_false_iff]
            left
            refine Bool.eq_false_iff.mpr fun z => ?_
            have := List.all_eq_true.mp z b (List.mem_of_getElem? hb)
            rw [er] at this
            cases this
          rw [← this]
          exact k _ sm3
        | some r =>
          refine iteF ?_
          obtain ⟨dx, kd, bd, h1, h2, h3⟩ := htb.mono (.same sm3)
          refine s_listE (e_meth (val_var rfl) h1 (tbF_no _ _ (by decide +kernel) (by decide +kernel)) (va_cons (val_var rfl) (va_cons (val_var rfl) va_nil)) ⟨TT, tb, b, l, rfl, ⟨dx, kd, bd, h1, h2, h3⟩, fun q zs H4 s4 hq hq4 hzs => ?_⟩)
          have hdd3 : ∃ kv, H3 dd = some (.dK kv) ∧ kv.map (·.1) = _ := let ⟨kv, a1, a2⟩ := hdd2; ⟨kv, s3 _ _ a1, a2⟩
          obtain ⟨kv3, hd3, hk3⟩ := hdd3
          have nq : q ≠ dd := fun z => by rw [z, hd3] at hq; cases hq
          refine ⟨q, rfl, ⟨zs, SqL.of hq4⟩, lpL (xs := zs) (fun n σ H' => Same H H' ∧ Tp H4 H' ∧ H' q = some (.lst zs) ∧ H' sl = some (.lst (sts.map V.int)) ∧ (∃ o9 o10, σ = [some (.ref tb), some (.ref bh), some (.ref ct), some (.int cf.1), some (.ref pt), some (.ref sl), some (.int l), some (.ref dd), some (.int b), o9, o10]) ∧
              IntD H' dd (((gsOf TT l b).take n).foldl ins (((sts.take j).flatMap (gsOf TT l)).foldl ins [])))
            ⟨sm3.trans s4, Tp.refl _, hq4, s4 _ _ (s3 _ _ hsl2), ⟨_, _, rfl⟩, kv3, s4 _ _ hd3, hk3⟩ (fun n σ H' p => SqL.of p.2.2.1) ?_ ?_⟩
          · rintro n x σ H5 hx ⟨sm5, t5, hq5, hsl5, ⟨o9, o10, rfl⟩, hd5⟩
            obtain ⟨e, he, xa, rfl, hxa⟩ := hzs.get' hx
            refine g_two (t5 _ _ hxa) ?_
            have hn : ((gsOf TT l b).take n).foldl ins (((sts.take j).flatMap (gsOf TT l)).foldl ins []) = (((sts.take j).flatMap (gsOf TT l)) ++ (gsOf TT l b).take n).foldl ins [] := by rw [foldl_app]
            refine intD_put hd5 val_c (val_var rfl) (val_var rfl) ?_ fun kv hkv6 => ?_
            · refine Nat.lt_of_le_of_lt (goals_le TT ?_ fun x hx => ?_) (by omega)
              · rw [hn]; exact foldl_ins_nodup List.nodup_nil
              · rw [hn, mem_foldl_ins] at hx
                rcases hx with hx | hx
                · cases hx
                · rcases List.mem_append.mp hx with hx | hx
                  · exact goals_in TT l _ x hx
                  · obtain ⟨q', hq', rfl⟩ := List.mem_map.mp (List.mem_of_mem_take hx)
                    exact List.mem_map.mpr ⟨_, of_mem_fromJ hq', rfl⟩
            · obtain ⟨kv5, hd5', _⟩ := hd5
              have tp : Tp H5 (upd H5 dd (.dK kv)) := .upd fun xs z => by rw [hd5'] at z; cases z
              refine ⟨sm_own sm5 hdd0, t5.trans tp, by rw [upd_ne nq]; exact hq5, by rw [upd_ne nsl]; exact hsl5, ⟨_, _, rfl⟩, ?_⟩
              rw [take_succ' (b := e.1) (by unfold gsOf; rw [List.getElem?_map, he]; rfl), foldl_app]
              exact hkv6
          · rintro σ H5 ⟨sm5, t5, hq5, hsl5, ⟨o9, o10, rfl⟩, hd5⟩
            refine ⟨sm5, hsl5, ⟨_, _, _, rfl⟩, ?_, ?_⟩
            · have e1 : zs.length = (gsOf TT l b).length := by unfold gsOf; rw [List.length_map, hzs.len]
              rw [e1, List.take_length] at hd5
              rw [take_succ' hb, List.flatMap_append, foldl_app]
              simpa using hd5
            · rw [take_succ' hb, List.all_append, eall]
              simp [er]
      · rintro σ H2 ⟨sm2, hsl2, ⟨o8, o9, o10, rfl⟩, ⟨kv, hd2, hk2⟩, eall⟩
        rw [List.length_map, List.take_length] at hk2 eall
        refine s_asg (val_var rfl _ ⟨dd, kv, rfl, .inl hd2, fun p hp => ?_⟩)
        refine ⟨sm_new sm2 hp, nextJ TT l sts, p, _, _, _, _, _, rfl, ?_, ?_⟩
        · rw [upd_same, intD_keys hk2]; rfl
        · rw [es, eall, Bool.true_and]
    · rintro σ H1 ⟨sm1, sts, sl, o6, o7, o8, o9, o10, rfl, hsl, es⟩
      rw [List.length_map, List.drop_length] at es
      simp only [startsJ] at es
      refine s_ret val_c ?_
      rw [← es]
      exact k _ sm1
end
end PW
end

section
set_option Elab.async false
set_option maxRecDepth 100000
set_option maxHeartbeats 4000000
set_option linter.all false
/-! Walks: shows_ever, shows_not, takes_endless. -/
namespace PW
open PySem L2 PX PR
section
variable {P : Program} {w : World} {K : PySem.W.Frag} {mg : Str → Option Value} {base : Heap} {c : Cs}
def encW : Option (Hd × Bool) → PyData
  | none => .none
  | some p => .tuple [encH p.1, .bool p.2]
theorem wk_dp {H : Hp} {o : Option (Hd × Bool)} {v : V} (h : optR wkR H o v) : Dp K H v (encW o) := by
  cases o with
  | none => cases h; exact .non
  | some p =>
    obtain ⟨a, x, y, rfl, h1, ⟨b, rfl, hb⟩, rfl⟩ := h
    exact .tup (SqT.of h1) (.cons (hd_dp hb) (.cons (.bl _) .nil))
theorem shaped_W (o : Option (Hd × Bool)) : PySem.SeqAt.shaped (encW o) = true := by
  cases o <;> rfl
theorem eqv_W (a b : Option (Hd × Bool)) : PyData.eqv (encW a) (encW b) = decide (a = b) := by
  cases a with
  | none =>
    cases b with
    | none => simp [encW, PyData.eqv]
    | some q => simp [encW, PyData.eqv]
  | some p =>
    cases b with
    | none => simp [encW, PyData.eqv]
    | some q =>
      obtain ⟨p1, p2⟩ := p
      obtain ⟨q1, q2⟩ := q
      simp only [encW, PyData.eqv, PyData.eqvAll, eqv_hd]
      rw [Bool.eq_iff_iff]
      simp
def everR : Rp Ever := fun H e v => ∃ a x y z u, v = .ref a ∧ H a = some (.tup [.str "ever", x, y, z, u]) ∧ tupR rowR H e.rows x ∧ tupR intR H e.desc y ∧ tupR mvR H e.way z ∧ tupR mvR H e.ring u
theorem everR_m : MonoT everR := ⟨fun e ⟨a, x, y, z, u, h1, h2, h3, h4, h5, h6⟩ => ⟨a, x, y, z, u, h1, e a _ h2, (tupR_m rowR_m).mono e h3, (tupR_m intR_m).mono e h4, (tupR_m mvR_m).mono e h5, (tupR_m mvR_m).mono e h6⟩⟩
def notR : Rp (List Ent × List (Hd × Int)) := fun H p v => ∃ a x y, v = .ref a ∧ H a = some (.tup [.str "not", x, y]) ∧ tupR entR H p.1 x ∧ tupR rkR H p.2 y
theorem notR_m : MonoT notR := ⟨fun e ⟨a, x, y, h1, h2, h3, h4⟩ => ⟨a, x, y, h1, e a _ h2, (tupR_m keyR_m).mono e h3, (tupR_m rkR_m).mono e h4⟩⟩
def spEver (c : Cs) : Sp := fun vs H Q _ => ∃ (M : Mach) (mk : Int → Bool) (m cv pv : V) (md : Addr) (cf : Int × List Int) (e : Ever), vs = [m, .ref md, cv, pv] ∧ machR c H M m ∧ MarksAt mk H md ∧ cfgR H cf cv ∧ everR H e pv ∧ e.rows.length ≤ 1000 ∧ ∀ H', Same H H' → Q (.bl (everJ M mk cf e)) H'
theorem sc_ever : FnScope ["machine", "marks", "configuration", "paper", "_", "rows", "descent", "way", "ring", "takings", "head", "reached"] ["machine", "marks", "configuration", "paper"] (defScope sEver) := ⟨rfl, rfl, rfl, by decide +kernel, rfl, by decide +kernel, by decide +kernel⟩
theorem ok_ever (T : Txt K mg c) {f : Addr} {fd : FuncData} (F : Fun K "shows_ever" "shows_ever" sEver f fd) : FnOk P w K mg base CX0 4 f fd ["machine", "marks", "configuration", "paper"] (spEver c) := by
  obtain ⟨f1, fd1, F1, b1, m1⟩ := T.takings
  obtain ⟨f2, fd2, F2, b2, m2⟩ := T.behind
  obtain ⟨f3, fd3, F3, b3, m3⟩ := T.walk
  have G1 : FnOk P w K mg base CX0 3 f1 fd1 ["machine", "marks", "rows"] (spTakings c) := ok_takings T F1
  have G2 : FnOk P w K mg base CX0 2 f2 fd2 ["takings", "configuration", "descent"] (spBehind c) := ok_behind T F2
  have G3 : FnOk P w K mg base CX0 3 f3 fd3 ["takings", "head", "moves"] (spWalk c) := ok_walk T F3
  refine F.ok sc_ever (fun vs H Q E h => ?_) (fun cdv A outer s H vs Q E hr h => ?_)
  · obtain ⟨M, mk, m, cv, pv, md, cf, e, rfl, _⟩ := h
    rfl
  · obtain ⟨M, mk, m, cv, pv, md, cf, e, rfl, hm, hmk, hc, ⟨pa, x, y, z, u, rfl, hpa, hx, hy, hz, hw⟩, hlen, k⟩ := h
    have hu := hu_of hr
    have hr2 : Room 2 _ := hr.mono (by decide)
    refine ⟨_, (pss_cons (ps_asg (pv 3) (pg_tup rfl (pgs_cons (pg_name (i := 4) sc_ever.nd rfl (by first | exact Or.inl rfl | exact Or.inr rfl)) (pgs_cons (pg_name (i := 5) sc_ever.nd rfl (by first | exact Or.inl rfl | exact Or.inr rfl)) (pgs_cons (pg_name (i := 6) sc_ever.nd rfl (by first | exact Or.inl rfl | exact Or.inr rfl)) (pgs_cons (pg_name (i := 7) sc_ever.nd rfl (by first | exact Or.inl rfl | exact Or.inr rfl)) (pgs_cons (pg_name (i := 8) sc_ever.nd rfl (by first | exact Or.inl rfl | exact Or.inr rfl)) pgs_nil)))))))
      (pss_cons (ps_set (i := 9) sc_ever.nd rfl (by first | exact Or.inl rfl | exact Or.inr rfl) (pe_call G1 hr (by rfl) m1 F1.kp b1 .nil pass0 (pa_cons (pv 0) (pa_cons (pv 1) (pa_cons (pv 5) pa_nil)))))
      (pss_cons (ps_if (pt_cmpR op_isN (pv 9) pe_non (nomark _))
          (pss_one (ps_ret pe_bl))
          pss_nil)
      (pss_cons (ps_set (i := 10) sc_ever.nd rfl (by first | exact Or.inl rfl | exact Or.inr rfl) (pe_call G2 hr2 (by rfl) m2 F2.kp b2 .nil pass0 (pa_cons (pv 9) (pa_cons (pv 2) (pa_cons (pv 6) pa_nil)))))
      (pss_cons (ps_if (pt_cmpR op_isN (pv 10) pe_non (nomark _))
          (pss_one (ps_ret pe_bl))
          pss_nil)
      (pss_cons (ps_set (i := 11) sc_ever.nd rfl (by first | exact Or.inl rfl | exact Or.inr rfl) (pe_call G3 hr (by rfl) m3 F3.kp b3 .nil pass0 (pa_cons (pv 9) (pa_cons (pv 10) (pa_cons (pv 7) pa_nil)))))
      (pss_cons (ps_if (pt_cmpR op_isN (pv 11) pe_non (nomark _))
          (pss_one (ps_ret pe_bl))
          pss_nil)
      (pss_one (ps_ret (pe_cmpR (op_eqD hr.units) (pe_call G3 hr (by rfl) m3 F3.kp b3 .nil pass0 (pa_cons (pv 9) (pa_cons (pe_ix ix_tup (pv 11) pe_int (fun _ _ => rfl)) (pa_cons (pv 8) pa_nil)))) (pe_tup (pa_cons (pe_ix ix_tup (pv 11) pe_int (fun _ _ => rfl)) (pa_cons pe_bl pa_nil))) (nomark _))))))))))), ?_⟩
    refine ⟨_, rfl, g_five hpa ?_⟩
    refine q_asg (e_call (va_cons (val_var rfl) (va_cons (val_var rfl) (va_cons (val_var rfl) va_nil))) ⟨M, mk, md, m, x, e.rows, rfl, hm, hmk, hx, hlen, fun v H1 s1 hv => ?_⟩)
    cases e1 : takingsJ M mk e.rows [] with
    | none =>
      rw [e1] at hv
      cases hv
      refine q_when (b := true) (a_test (v_isN1 (val_var rfl))) (fun _ => s_ret val_c ?_) (fun z => by cases z)
      have : everJ M mk cf e = false := by unfold everJ; rw [e1]
      rw [← this]
      exact k _ s1
    | some es =>
      rw [e1] at hv
      obtain ⟨ta, tl, rfl, tk⟩ := hv
      refine q_when (b := false) (a_test (v_isN0 (val_var rfl))) (fun z => by cases z) (fun _ => ?_)
      refine q_asg (e_call (va_cons (val_var rfl) (va_cons (val_var rfl) (va_cons (val_var rfl) va_nil))) ⟨M, mk, ta, tl, es, cv, y, cf, e.desc, rfl, tk, cfgR_m.mono (.same s1) hc, (tupR_m intR_m).mono (.same s1) hy, fun v H2 s2 hv => ?_⟩)
      have s12 := s1.trans s2
      cases e2 : headJ es cf e.desc with
      | none =>
        rw [e2] at hv
        cases hv
        refine q_when (b := true) (a_test (v_isN1 (val_var rfl))) (fun _ => s_ret val_c ?_) (fun z => by cases z)
        have : everJ M mk cf e = false := by unfold everJ; simp only [e1, e2]
        rw [← this]
        exact k _ s12
      | some h0 =>
        rw [e2] at hv
        obtain ⟨ha, rfl, hha⟩ := hv
        refine q_when (b := false) (a_test (v_isN0 (val_var rfl))) (fun z => by cases z) (fun _ => ?_)
        refine q_asg (e_call (va_cons (val_var rfl) (va_cons (val_var rfl) (va_cons (val_var rfl) va_nil))) ⟨M, mk, ta, tl, es, .ref ha, z, h0, e.way, rfl, tk.mono (.same s2), ⟨ha, rfl, hha⟩, (tupR_m mvR_m).mono (.same s12) hz, fun v H3 s3 hv => ?_⟩)
        have s123 := s12.trans s3
        cases e3 : walkJ M mk es e.way h0 false with
        | none =>
          rw [e3] at hv
          cases hv
          refine q_when (b := true) (a_test (v_isN1 (val_var rfl))) (fun _ => s_ret val_c ?_) (fun z => by cases z)
          have : everJ M mk cf e = false := by unfold everJ; simp only [e1, e2, e3]
          rw [← this]
          exact k _ s123
        | some r =>
          rw [e3] at hv
          obtain ⟨ra, x0, y0, rfl, hra, ⟨rh, rfl, hrh⟩, rfl⟩ := hv
          refine q_when (b := false) (a_test (v_isN0 (val_var rfl))) (fun z => by cases z) (fun _ => ?_)
          have tk3 : TkAt c M mk H3 ta tl es := (tk.mono (.same s2)).mono (.same s3)
          refine s_retE (e_call (va_cons (val_var rfl) (va_cons (v_ixT (val_var rfl) val_c hra (atI_nat (j := 0) rfl)) (va_cons (val_var rfl) va_nil))) ⟨M, mk, ta, tl, es, .ref rh, u, r.1, e.ring, rfl, tk3, ⟨rh, rfl, hrh⟩, (tupR_m mvR_m).mono (.same s123) hw, fun v H4 s4 hv => ?_⟩)
          refine t_tup (va_cons (v_ixT (val_var rfl) val_c (s4 _ _ hra) (atI_nat (j := 0) rfl)) (va_cons val_c va_nil)) fun q hq => ?_
          have s5 : Same H4 (upd H4 q (.tup [.ref rh, .bl true])) := sm_up hq
          have hv' : optR wkR (upd H4 q (.tup [.ref rh, .bl true])) (walkJ M mk es e.ring r.1 false) v := (optR_m wkR_m).mono (.same s5) hv
          have hq' : optR wkR (upd H4 q (.tup [.ref rh, .bl true])) (some (r.1, true)) (.ref q) := ⟨q, .ref rh, .bl true, rfl, upd_same, ⟨rh, rfl, s5 _ _ (s4 _ _ hrh)⟩, rfl⟩
          refine ⟨_, _, wk_dp hv', wk_dp hq', shaped_W _, shaped_W _, ?_⟩
          rw [eqv_W]
          have : everJ M mk cf e = decide (walkJ M mk es e.ring r.1 false = some (r.1, true)) := by unfold everJ; simp only [e1, e2, e3]
          rw [← this]
          exact k _ ((s123.trans s4).trans s5)
end
end PW
end

section
set_option Elab.async false
set_option maxRecDepth 100000
set_option maxHeartbeats 4000000
set_option linter.all false
/-! Walks: shows_not, takes_endless. -/
namespace PW
open PySem L2 PX PR
section
variable {P : Program} {w : World} {K : PySem.W.Frag} {mg : Str → Option Value} {base : Heap} {c : Cs}
theorem rankOf_snoc (R : List (Hd × Int)) (p : Hd × Int) (hn : p.1 ∉ R.map (·.1)) (h : Hd) : rankOf (R ++ [p]) h = if h = p.1 then some p.2 else rankOf R h := by
  unfold rankOf
  rw [List.find?_append]
  by_cases hh : h = p.1
  · rw [if_pos hh]
    have : R.find? (fun q => decide (q.1 = h)) = none := List.find?_eq_none.mpr fun q hq => by
      simp only [decide_eq_true_eq]
      intro z
      exact hn (List.mem_map.mpr ⟨q, hq, by rw [z, hh]⟩)
    rw [this]
    simp [hh]
  · rw [if_neg hh]
    have : [p].find? (fun q => decide (q.1 = h)) = none := by simp; exact fun z => hh z.symm
    rw [this]
    simp
theorem yes {σ : L2.St} {H : Hp} {Q : Bool → Hp → Prop} (h : Q true H) : tYes σ H Q := h
def spNot (c : Cs) : Sp := fun vs H Q _ => ∃ (M : Mach) (mk : Int → Bool) (m cv pv : V) (md : Addr) (cf : Int × List Int) (T : List Ent) (R : List (Hd × Int)), vs = [m, .ref md, cv, pv] ∧ machR c H M m ∧ MarksAt mk H md ∧ cfgR H cf cv ∧ notR H (T, R) pv ∧
  (∀ p ∈ M.steps, p.laid.length ≤ 2) ∧ T.Nodup ∧ T.length ≤ 200 ∧ (R.map (·.1)).Nodup ∧ R.length ≤ 1000 ∧ ∀ H', Same H H' → Q (.bl (notJ M mk cf T R)) H'
theorem sc_not : FnScope ["machine", "marks", "configuration", "paper", "_", "entries", "ranks", "table", "by_head", "head", "number"] ["machine", "marks", "configuration", "paper"] (defScope sNot) := ⟨rfl, rfl, rfl, by decide +kernel, rfl, by decide +kernel, by decide +kernel⟩
theorem ok_not (T : Txt K mg c) {f : Addr} {fd : FuncData} (F : Fun K "shows_not" "shows_not" sNot f fd) : FnOk P w K mg base CX0 4 f fd ["machine", "marks", "configuration", "paper"] (spNot c) := by
  obtain ⟨f1, fd1, F1, b1, m1⟩ := T.entries
  obtain ⟨f2, fd2, F2, b2, m2⟩ := T.ranks
  obtain ⟨f3, fd3, F3, b3, m3⟩ := T.tbInit
  obtain ⟨f4, fd4, F4, b4, m4⟩ := T.tbClosed
  obtain ⟨f5, fd5, F5, b5, m5⟩ := T.falls
  obtain ⟨f6, fd6, F6, b6, m6⟩ := T.starts
  have G1 : FnOk P w K mg base CX0 2 f1 fd1 ["machine", "entries"] (spEntries c) := ok_entries T F1
  have G2 : FnOk P w K mg base CX0 2 f2 fd2 ["machine", "ranks"] (spRanks c) := ok_ranks T F2
  have G3 : FnOk P w K mg base CX0 1 f3 fd3 ["self", "entries"] (spTbInit P w c) := ok_tbInit T F3
  have G4 : FnOk P w K mg base CX0 2 f4 fd4 ["self", "machine", "marks"] (spTbClosed P w c) := ok_tbClosed T F4
  have G5 : FnOk P w K mg base CX0 3 f5 fd5 ["machine", "marks", "table", "by_head"] (spFalls P w c) := ok_falls T F5
  have G6 : FnOk P w K mg base CX0 2 f6 fd6 ["table", "by_head", "configuration"] (spStarts P w c) := ok_starts T F6
  refine F.ok sc_not (fun vs H Q E h => ?_) (fun cdv A outer s H vs Q E hr h => ?_)
  · obtain ⟨M, mk, m, cv, pv, md, cf, TT, R, rfl, _⟩ := h
    rfl
  · obtain ⟨M, mk, m, cv, pv, md, cf, TT, R, rfl, hm, hmk, hc, ⟨pa, x, y, rfl, hpa, hx, hy⟩, hlaid, hnd, hTl, hRn, hRl, k⟩ := h
    have hu := hu_of hr
    have hr2 : Room 2 _ := hr.mono (by decide)
    refine ⟨_, (pss_cons (ps_asg (pv 3) (pg_tup rfl (pgs_cons (pg_name (i := 4) sc_not.nd rfl (by first | exact Or.inl rfl | exact Or.inr rfl)) (pgs_cons (pg_name (i := 5) sc_not.nd rfl (by first | exact Or.inl rfl | exact Or.inr rfl)) (pgs_cons (pg_name (i := 6) sc_not.nd rfl (by first | exact Or.inl rfl | exact Or.inr rfl)) pgs_nil)))))
      (pss_cons (ps_if (PW.pt (pw_or (pt_not (pt_val (pe_call G1 hr2 (by rfl) m1 F1.kp b1 .nil pass0 (pa_cons (pv 0) (pa_cons (pv 5) pa_nil))))) (pw_or1 (pt_not (pt_val (pe_call G2 hr2 (by rfl) m2 F2.kp b2 .nil pass0 (pa_cons (pv 0) (pa_cons (pv 6) pa_nil))))))))
          (pss_one (ps_ret pe_bl))
          pss_nil)
      (pss_cons (ps_set (i := 7) sc_not.nd rfl (by first | exact Or.inl rfl | exact Or.inr rfl) (pe_make m3 G3 hr2 (by rfl) T.mtb b3 .nil pass0 (pa_cons (pv 5) pa_nil)))
      (pss_cons (ps_if (pt_not (pt_val (pe_meth (pv 7) T.tb.cl m4 G4 hr2 b4 .nil pass0 (pa_cons (pv 0) (pa_cons (pv 1) pa_nil)))))
          (pss_one (ps_ret pe_bl))
          pss_nil)
      (pss_cons (ps_setXDc Hd (i := 8) (own := [("head", 9), ("number", 10)]) (tt := tYes) (g := gTup K 2 (gCons (gName 9) (gCons (gName 10) gNil))) (Nat.lt_of_succ_lt hu) rfl sc_not.nd rfl rfl (sw_trueD rfl rfl rfl (by decide +kernel)) (pi_tup (pv 6)) (blkOk_by (N := ["machine", "marks", "configuration", "paper", "_", "entries", "ranks", "table", "by_head", "head", "number"]) (sc := defScope sNot) (by decide +kernel)) (fun _ _ _ _ _ => (pg_tup rfl (pgs_cons (pg_name (i := 9) sc_not.nd rfl (by first | exact Or.inl rfl | exact Or.inr rfl)) (pgs_cons (pg_name (i := 10) sc_not.nd rfl (by first | exact Or.inl rfl | exact Or.inr rfl)) pgs_nil)))) (fun _ _ _ _ _ => pts_nil) (fun _ _ _ _ _ => (pv 9)) (fun _ _ _ _ _ => (pv 10)))
      (pss_one (ps_ret (pe_and (pe_call G5 hr (by rfl) m5 F5.kp b5 .nil pass0 (pa_cons (pv 0) (pa_cons (pv 1) (pa_cons (pv 7) (pa_cons (pv 8) pa_nil))))) (pe_one (pe_call G6 hr2 (by rfl) m6 F6.kp b6 .nil pass0 (pa_cons (pv 7) (pa_cons (pv 8) (pa_cons (pv 2) pa_nil))))))))))))), ?_⟩
    refine ⟨_, rfl, g_three hpa ?_⟩
    have no : ∀ {H'}, Same H H' → notJ M mk cf TT R = false → Q (.bl false) H' := fun s e => by rw [← e]; exact k _ s
    refine q_whenE (a_orE (a_notE (a_bE (e_call (va_cons (val_var rfl) (va_cons (val_var rfl) va_nil)) ⟨M, m, x, TT, rfl, hm, hx, by omega, fun H1 s1 => ⟨_, rfl, ?_⟩⟩))))
    cases h1 : entsOkJ M TT with
    | false => exact iteT (iteT (s_ret val_c (no s1 (by unfold notJ; simp [h1]))))
    | true =>
      refine iteF (a_notE (a_bE (e_call (va_cons (val_var rfl) (va_cons (val_var rfl) va_nil)) ⟨M, m, y, R, rfl, machR_m.mono (.same s1) hm, (tupR_m rkR_m).mono (.same s1) hy, hRl, fun H2 s2 => ⟨_, rfl, ?_⟩⟩)))
      have s12 := s1.trans s2
      cases h2 : ranksOkJ M R with
      | false => exact iteT (s_ret val_c (no s12 (by unfold notJ; simp [h2])))
      | true =>
        refine iteF ?_
        refine q_asg (e_make (va_cons (val_var rfl) va_nil) fun ta dx hta hdx nda => ?_)
        have s3 : Same H2 (upd (upd H2 dx (.own ta)) ta (.ins c.tb dx [])) := sm_own (sm_up hdx) hta
        refine ⟨H2, TT, ta, dx, x, rfl, s3, hta, (tupR_m keyR_m).mono (.same s12) hx, hnd, by omega, upd_same, fun H3 s3 tb => ⟨rfl, ?_⟩⟩
        have s123 := s12.trans s3
        obtain ⟨tdx, kd, bd, t1, t2, t3⟩ := id tb
        refine q_whenE (a_notE (a_bE (e_meth (val_var rfl) t1 (tbF_no _ _ (by decide +kernel) (by decide +kernel)) (va_cons (val_var rfl) (va_cons (val_var rfl) va_nil)) ⟨M, mk, TT, ta, md, m, rfl, tb, machR_m.mono (.same s123) hm, hmk.mono (.same s123), hlaid, hTl, fun H4 s4 => ⟨_, rfl, ?_⟩⟩)))
        have s1234 := s123.trans s4
        cases h3 : closedJ TT mk M.steps 0 with
        | false => exact iteT (s_ret val_c (no s1234 (by unfold notJ; simp [h3])))
        | true =>
          refine iteF ?_
          obtain ⟨ra, xs, rfl, hra, hxs⟩ := (tupR_m rkR_m).mono (.same s1234) hy
          refine q_asg (e_xdcT (val_var rfl) (SqT.of hra) fun Dd hD H5 e5 d5 => ?_)
          have s5 : Same H4 H5 := by rw [e5]; exact sm_up hD
          refine xdc_tup (xs := xs) (fun i H' => Same H4 H' ∧ ∃ kvs : List (Hd × V), DXm P w H' Dd kvs ∧ kvs.length ≤ i ∧ ∀ h, valV kvs h = (rankOf (R.take i) h).map V.int)
            ⟨s5, [], d5, Nat.le_refl _, fun h => rfl⟩ (fun i H' _ p => SqT.of (p.1 _ _ hra)) ?_ ?_
          · rintro i x H' hx ⟨sm, kvs, dk, kl, kv⟩
            obtain ⟨p, hp, xa, x0, x1, rfl, hxa, ⟨ha, rfl, hha⟩, rfl⟩ := hxs.get' hx
            have hi := (List.getElem?_eq_some_iff.mp hp).1
            refine g_two (sm _ _ hxa) ⟨rfl, yes (iteT (val_var rfl _ (val_var rfl _ ⟨ha, kvs, p.1, rfl, dk, sm _ _ hha, big6 (by have : i < R.length := hi; omega), fun H6 h6 => ?_⟩)))⟩
            obtain ⟨dm6, fr6, lo6⟩ := DXm.put h6 dk
            refine ⟨fr6.base sm fun b z => by rw [List.mem_singleton.mp z]; exact hD, _, dm6, Nat.le_trans (length_putK _ _ _) (Nat.succ_le_succ kl), fun h => ?_⟩
            have hn : p.1 ∉ (R.take i).map (·.1) := by
              intro z
              rw [List.map_take] at z
              obtain ⟨j, hj⟩ := List.mem_iff_getElem?.mp z
              have hj' := (List.getElem?_eq_some_iff.mp hj).1
              rw [List.length_take] at hj'
              rw [List.getElem?_take_of_lt (by omega)] at hj
              have := nd_at hRn hj (by rw [List.getElem?_map, hp]; rfl : (R.map (·.1))[i]? = some p.1)
              omega
            rw [valV_put, take_succ' hp, rankOf_snoc _ _ hn, kv]
            split <;> rfl
          · rintro H6 ⟨sm, kvs, dk, kl, kv⟩
            rw [← hxs.len, List.take_length] at kv
            have rk : RkAt P w H6 Dd R := ⟨kvs, dk.rd, kv⟩
            have s6 := s1234.trans sm
            have tb6 := (tb.mono (.same s4)).mono (.same sm)
            refine s_retE (e_andE (e_call (va_cons (val_var rfl) (va_cons (val_var rfl) (va_cons (val_var rfl) (va_cons (val_var rfl) va_nil)))) ⟨M, mk, TT, R, m, md, ta, Dd, rfl, machR_m.mono (.same s6) hm, hmk.mono (.same s6), tb6, rk, hlaid, hTl, fun H7 s7 => ⟨_, rfl, ?_⟩⟩))
            cases h4 : fallsJ TT R mk M.steps 0 with
            | false => exact iteF (no (s6.trans s7) (by unfold notJ; simp [h4]))
            | true =>
              refine iteT (e_call (va_cons (val_var rfl) (va_cons (val_var rfl) (va_cons (val_var rfl) va_nil))) ⟨TT, R, cf, cv, ta, Dd, rfl, tb6.mono (.same s7), rk.mono (.same s7), cfgR_m.mono (.same (s6.trans s7)) hc, hTl, fun H8 s8 => ?_⟩)
              have : notJ M mk cf TT R = startsJ TT R cf.2 [cf.1] := by unfold notJ; simp [h1, h2, h3, h4]
              rw [← this]
              exact k _ ((s6.trans s7).trans s8)
/-! ### takes_endless -/
def paperR : Rp Paper := fun H p v => match p with
  | .ever e => everR H e v
  | .not T R => notR H (T, R) v
theorem paperR_m : MonoT paperR := ⟨fun {H H' p v} e h => by
  cases p with
  | ever r => exact everR_m.mono e h
  | not T R => exact notR_m.mono e h⟩
/-- a paper of a size that the judge can read -/
def PaperOk : Paper → Prop
  | .ever e => e.rows.length ≤ 1000
  | .not T R => T.Nodup ∧ T.length ≤ 200 ∧ (R.map (·.1)).Nodup ∧ R.length ≤ 1000
def mkOf (ms : List Int) (i : Int) : Bool := decide (i ∈ ms)
def spTakes (c : Cs) : Sp := fun vs H Q _ => ∃ (M : Mach) (ms : List Int) (m mv cv pp : V) (cf : Int × List Int) (b : Bool) (p : Paper), vs = [m, mv, cv, .bl b, pp] ∧ machR c H M m ∧ tupR intR H ms mv ∧ cfgR H cf cv ∧ paperR H p pp ∧ PaperOk p ∧
  (∀ p ∈ M.steps, p.laid.length ≤ 2) ∧ ms.length ≤ 1000 ∧ ∀ H', Same H H' → Q (.bl (takesJ M (mkOf ms) cf b p)) H'
theorem sc_takes : FnScope ["machine", "marked", "configuration", "verdict", "paper", "marks", "index"] ["machine", "marked", "configuration", "verdict", "paper"] (defScope sTakes) := ⟨rfl, rfl, rfl, by decide +kernel, rfl, by decide +kernel, by decide +kernel⟩
theorem ok_takes (T : Txt K mg c) {f : Addr} {fd : FuncData} (F : Fun K "takes_endless" "takes_endless" sTakes f fd) : FnOk P w K mg base CX0 5 f fd ["machine", "marked", "configuration", "verdict", "paper"] (spTakes c) := by
  obtain ⟨f1, fd1, F1, b1, m1⟩ := T.ever
  obtain ⟨f2, fd2, F2, b2, m2⟩ := T.not_
  have G1 : FnOk P w K mg base CX0 4 f1 fd1 ["machine", "marks", "configuration", "paper"] (spEver c) := ok_ever T F1
  have G2 : FnOk P w K mg base CX0 4 f2 fd2 ["machine", "marks", "configuration", "paper"] (spNot c) := ok_not T F2
  refine F.ok sc_takes (fun vs H Q E h => ?_) (fun cdv A outer s H vs Q E hr h => ?_)
  · obtain ⟨M, ms, m, mv, cv, pp, cf, b, p, rfl, _⟩ := h
    rfl
  · obtain ⟨M, ms, m, mv, cv, pp, cf, b, p, rfl, hm, ⟨ma, xs, rfl, hma, hms⟩, hc, hp, hpo, hlaid, hml, k⟩ := h
    have hms' := all_ints hms
    subst hms'
    have hu := hu_of hr
    refine ⟨_, (pss_cons (ps_setDc (i := 5) (own := [("index", 6)]) (tt := tYes) rfl sc_takes.nd rfl rfl (sw_trueD rfl rfl rfl (by decide +kernel)) (pi_tup (pv 1)) (blkOk_by (N := ["machine", "marked", "configuration", "verdict", "paper", "marks", "index"]) (sc := defScope sTakes) (by decide +kernel)) (fun _ _ _ _ _ => (pg_name (i := 6) sc_takes.nd rfl (by first | exact Or.inl rfl | exact Or.inr rfl))) (fun _ _ _ _ _ => pts_nil) (fun _ _ _ _ _ => (pv 6)) (fun _ _ _ _ _ => pe_bl))
      (pss_cons (ps_if (pt_cmpR op_eq (pe_ix ix_tup (pv 4) pe_int (fun _ _ => rfl)) pe_str (nomark _))
          (pss_one (ps_ret (pe_and (pv 3) (pe_one (pe_call G1 hr (by rfl) m1 F1.kp b1 .nil pass0 (pa_cons (pv 0) (pa_cons (pv 5) (pa_cons (pv 2) (pa_cons (pv 4) pa_nil)))))))))
          pss_nil)
      (pss_cons (ps_if (pt_cmpR op_ne (pe_ix ix_tup (pv 4) pe_int (fun _ _ => rfl)) pe_str (nomark _))
          (pss_one (ps_ret pe_bl))
          pss_nil)
      (pss_one (ps_ret (pe_and (pe_not (pv 3)) (pe_one (pe_call G2 hr (by rfl) m2 F2.kp b2 .nil pass0 (pa_cons (pv 0) (pa_cons (pv 5) (pa_cons (pv 2) (pa_cons (pv 4) pa_nil)))))))))))), ?_⟩
    refine q_asg (e_dcT (val_var rfl) (SqT.of hma) fun md hD => ?_)
    refine dc_tup (xs := ms.map V.int) (fun i H' => Same H H' ∧ ∃ kvs : List (Key × V), H' md = some (.dK kvs) ∧ kvs.length ≤ i ∧ ∀ n : Int, (valV kvs (Sum.inl n)).isSome = decide (n ∈ ms.take i))
      ⟨sm_up hD, [], upd_same, Nat.le_refl _, fun n => by simp [valV]⟩ (fun i H' _ p => SqT.of (p.1 _ _ hma)) ?_ ?_
    · rintro i x H' hx ⟨sm, kvs, dk, kl, kv⟩
      obtain ⟨n, hn, rfl⟩ := ints_get hx
      have hi := (List.getElem?_eq_some_iff.mp hn).1
      refine g_name ⟨rfl, yes (iteT (val_var rfl _ (val_c _ ⟨kvs, Sum.inl n, rfl, dk, big6 (by omega), sm_own sm hD, _, upd_same, Nat.le_trans (length_putK _ _ _) (Nat.succ_le_succ kl), fun n' => ?_⟩)))⟩
      rw [valV_put, take_succ' hn]
      by_cases h : n' = n
      · rw [if_pos (by rw [h])]; simp [h]
      · rw [if_neg (fun z => h (by cases z; rfl)), kv]; simp [h]
    · rintro H1 ⟨s1, kvs, dk, kl, kv⟩
      rw [List.length_map, List.take_length] at kv
      have hmk : MarksAt (mkOf ms) H1 md := ⟨kvs, .inl dk, kv⟩
      have hm1 := machR_m.mono (.same s1) hm
      have hc1 := cfgR_m.mono (.same s1) hc
      cases p with
      | ever e =>
        have hp1 : everR H1 e pp := everR_m.mono (.same s1) hp
        obtain ⟨pa, x, y, z, u, rfl, hpa, hrest⟩ := id hp1
        refine q_when (b := decide (V.str "ever" = V.str "ever")) (a_test (v_eq (v_ixT (val_var rfl) val_c hpa (atI_nat (j := 0) rfl)) val_c rfl)) (fun _ => ?_) (fun z => by simp at z)
        refine s_retE (e_andE (val_var rfl _ ⟨_, rfl, ?_⟩))
        cases b with
        | false =>
          refine iteF ?_
          have : takesJ M (mkOf ms) cf false (.ever e) = false := by simp [takesJ, Paper.verdict]
          rw [← this]; exact k _ s1
        | true =>
          refine iteT (e_call (va_cons (val_var rfl) (va_cons (val_var rfl) (va_cons (val_var rfl) (va_cons (val_var rfl) va_nil)))) ⟨M, mkOf ms, m, cv, .ref pa, md, cf, e, rfl, hm1, hmk, hc1, hp1, hpo, fun H2 s2 => ?_⟩)
          have : takesJ M (mkOf ms) cf true (.ever e) = everJ M (mkOf ms) cf e := by simp [takesJ, Paper.verdict, Paper.right]
          rw [← this]; exact k _ (s1.trans s2)
      | not TT R =>
        have hp1 : notR H1 (TT, R) pp := notR_m.mono (.same s1) hp
        obtain ⟨pa, x, y, rfl, hpa, hrest⟩ := id hp1
        have hne : ¬ (V.str "not" = V.str "ever") := fun z => by
          have : ("not" : Str) = "ever" := by injection z
          exact absurd this (by decide +kernel)
        refine q_when (b := decide (V.str "not" = V.str "ever")) (a_test (v_eq (v_ixT (val_var rfl) val_c hpa (atI_nat (j := 0) rfl)) val_c rfl)) (fun z => by rw [decide_eq_false hne] at z; cases z) (fun _ => ?_)
        refine q_when (b := !decide (V.str "not" = V.str "not")) (a_test (v_ne (v_ixT (val_var rfl) val_c hpa (atI_nat (j := 0) rfl)) val_c rfl)) (fun z => by simp at z) (fun _ => ?_)
        refine s_retE (e_andE (v_not (val_var rfl) _ ⟨_, rfl, ?_⟩))
        obtain ⟨o1, o2, o3, o4⟩ := hpo
        cases b with
        | true =>
          refine iteF ?_
          have : takesJ M (mkOf ms) cf true (.not TT R) = false := by simp [takesJ, Paper.verdict]
          rw [← this]; exact k _ s1
        | false =>
          refine iteT (e_call (va_cons (val_var rfl) (va_cons (val_var rfl) (va_cons (val_var rfl) (va_cons (val_var rfl) va_nil)))) ⟨M, mkOf ms, m, cv, .ref pa, md, cf, TT, R, rfl, hm1, hmk, hc1, hp1, hlaid, o1, o2, o3, o4, fun H2 s2 => ?_⟩)
          have : takesJ M (mkOf ms) cf false (.not TT R) = notJ M (mkOf ms) cf TT R := by simp [takesJ, Paper.verdict, Paper.right]
          rw [← this]; exact k _ (s1.trans s2)
end
end PW
end

section
set_option Elab.async false
set_option maxRecDepth 100000
set_option maxHeartbeats 4000000
set_option linter.all false
/-! Walks: TakeOff.entries, TakeOff.use. -/
namespace PW
open PySem L2 PX PR
section
variable {P : Program} {w : World} {K : PySem.W.Frag} {mg : Str → Option Value} {base : Heap} {c : Cs}
def toF (m : V) (md fd ld : Addr) : List (Str × V) := putF "leaving" (.ref ld) (putF "found" (.ref fd) (putF "marked" (.ref md) (putF "machine" m [])))
theorem ne_to1 : ¬ (("machine" : Str) = "leaving") := by decide +kernel
theorem ne_to2 : ¬ (("machine" : Str) = "found") := by decide +kernel
theorem ne_to3 : ¬ (("machine" : Str) = "marked") := by decide +kernel
theorem ne_to4 : ¬ (("marked" : Str) = "leaving") := by decide +kernel
theorem ne_to5 : ¬ (("marked" : Str) = "found") := by decide +kernel
theorem ne_to6 : ¬ (("found" : Str) = "leaving") := by decide +kernel
theorem toF_machine (m : V) (md fd ld : Addr) : (toF m md fd ld).lookup ("machine" : Str) = some m := lk_miss ne_to1 (lk_miss ne_to2 (lk_miss ne_to3 lk_hit))
theorem toF_marked (m : V) (md fd ld : Addr) : (toF m md fd ld).lookup ("marked" : Str) = some (.ref md) := lk_miss ne_to4 (lk_miss ne_to5 lk_hit)
theorem toF_found (m : V) (md fd ld : Addr) : (toF m md fd ld).lookup ("found" : Str) = some (.ref fd) := lk_miss ne_to6 lk_hit
theorem toF_leaving (m : V) (md fd ld : Addr) : (toF m md fd ld).lookup ("leaving" : Str) = some (.ref ld) := lk_hit
theorem toF_no (m : V) (md fd ld : Addr) {x : Str} (h1 : ¬ x = "leaving") (h2 : ¬ x = "found") (h3 : ¬ x = "marked") (h4 : ¬ x = "machine") : (toF m md fd ld).lookup x = none := lk_miss h1 (lk_miss h2 (lk_miss h3 (lk_miss h4 rfl)))
theorem to_fld (T : Txt K mg c) {σ : L2.St} {H : Hp} {te : TE} {a dx : Addr} {fs : List (Str × V)} {fn : Str} {v : V} (h : H a = some (.ins c.to dx fs)) (e : Val te σ H (.ref a)) (hm : fn ∈ (["machine", "marked", "found", "leaving"] : List Str)) (hl : fs.lookup fn = some v) : Val (tFld K te fn) σ H v := val_fld e h T.to.cl (T.to.no _ hm) hl
def spToEntries (P : Program) (w : World) (c : Cs) : Sp := fun vs H Q _ => ∃ (a dx md fd ld : Addr) (m : V) (L : List Addr) (n : Nat) (f : Hd → List Ent) (s l : Int), vs = [.ref a, .int s, .int l] ∧ H a = some (.ins c.to dx (toF m md fd ld)) ∧ MM entR P w H ld f L n ∧
  ∀ q ys H1, Same H H1 → H1 q = some (.lst ys) → (q ∈ L ∨ H q = none) → All entR H1 (f (s, l)) ys → Q (.ref q) H1
theorem sc_toEntries : FnScope ["self", "state", "letter"] ["self", "state", "letter"] (defScope sToEntries) := ⟨rfl, rfl, rfl, by decide +kernel, rfl, by decide +kernel, by decide +kernel⟩
theorem ok_toEntries (T : Txt K mg c) {f : Addr} {fd : FuncData} (F : Fun K "entries" "TakeOff.entries" sToEntries f fd) : FnOk P w K mg base CX0 1 f fd ["self", "state", "letter"] (spToEntries P w c) := by
  refine F.ok sc_toEntries (fun vs H Q E h => ?_) (fun cdv A outer s H vs Q E hr h => ?_)
  · obtain ⟨a, dx, md, fd, ld, m, L, n, f, s, l, rfl, _⟩ := h
    rfl
  · obtain ⟨a, dx, md, fd, ld, m, L, n, f, s, l, rfl, h1, mm, k⟩ := h
    have hu := hu_of hr
    refine ⟨_, (pss_one (ps_ret (pe_xget2 Hd hu (pe_fld (pv 0) rfl) (pe_tup (pa_cons (pv 1) (pa_cons (pv 2) pa_nil))) (pe_lst pa_nil) ⟨rfl, rfl, rfl, rfl⟩))), ?_⟩
    exact s_retE (e_mmGet (h := (s, l)) keyR_m mm (to_fld T h1 (val_var rfl) (by simp) (toF_leaving _ _ _ _)) (new1_tup (va_cons (val_var rfl) (va_cons (val_var rfl) va_nil))) k)
/-! ### use -/
def feR : Rp (Nat × List Ent) := fun H x v => ∃ a t ps, v = .ref a ∧ H a = some (.tup [.int (x.1 : Nat), .ref t]) ∧ H t = some (.tup ps) ∧ All entR H x.2 ps
theorem feR_m : MonoT feR := ⟨fun e ⟨a, t, ps, h1, h2, h3, h4⟩ => ⟨a, t, ps, h1, e a _ h2, e t _ h3, h4.mono keyR_m e⟩⟩
def wayR : Rp Way := fun H x v => ∃ a t ps, v = .ref a ∧ H a = some (.tup [.int x.1, .bl x.2.1, .ref t]) ∧ H t = some (.tup ps) ∧ All entR H x.2.2 ps
theorem wayR_m : MonoT wayR := ⟨fun e ⟨a, t, ps, h1, h2, h3, h4⟩ => ⟨a, t, ps, h1, e a _ h2, e t _ h3, h4.mono keyR_m e⟩⟩
structure ToM (P : Program) (w : World) (c : Cs) (M : Mach) (mk : Int → Bool) (H0 H : Hp) (a fd ld : Addr) (K : List FE) (L : List Addr) (n : Nat) : Prop where
  same : Same H0 H
  ob : ∃ dx m md, H a = some (.ins c.to dx (toF m md fd ld)) ∧ machR c H0 M m ∧ MarksAt mk H md
  fnd : MapM feR P w H fd K
  lv : MM entR P w H ld (atHd (keysE K)) L n
  fa : H0 a = none
  ffd : H0 fd = none
  fL : ∀ b ∈ L, H0 b = none
  fdL : fd ∉ L
  cnt : n ≤ K.length
theorem ToM.up {M : Mach} {mk : Int → Bool} {H0 H H' : Hp} {a fd ld : Addr} {K : List FE} {L : List Addr} {n : Nat} (t : ToM P w c M mk H0 H a fd ld K L n) (e : Same H H') : ToM P w c M mk H0 H' a fd ld K L n :=
  ⟨t.same.trans e, let ⟨dx, m, md, h1, h2, h3⟩ := t.ob; ⟨dx, m, md, e _ _ h1, h2, h3.mono (.same e)⟩, t.fnd.same feR_m e, t.lv.same keyR_m e, t.fa, t.ffd, t.fL, t.fdL, t.cnt⟩
theorem atHd_snoc (T : List Ent) (e : Ent) (h : Hd) : atHd (T ++ [e]) h = if h = e.hd then atHd T h ++ [e] else atHd T h := by
  unfold atHd
  rw [List.filter_append]
  by_cases hh : h = e.hd
  · rw [if_pos hh, hh]; simp [List.filter_cons]
  · rw [if_neg hh]
    have : ¬ e.hd = h := fun z => hh z.symm
    simp [List.filter_cons, this]
theorem atHd_len (T : List Ent) (h : Hd) : (atHd T h).length ≤ T.length := List.length_filter_le _ _
theorem keysE_len (K : List FE) : (keysE K).length = K.length := List.length_map ..
theorem add1_old {st : Stp} {i : Nat} {KK : List FE} {w : Way} (h : entOf st w ∈ keysE KK) : add1 st i KK w = KK := by unfold PR.add1; rw [if_pos h]
theorem add1_new {st : Stp} {i : Nat} {KK : List FE} {w : Way} (h : entOf st w ∉ keysE KK) : add1 st i KK w = KK ++ [(entOf st w, i, w.2.2)] := by unfold PR.add1; rw [if_neg h]
def spToUse (P : Program) (w : World) (c : Cs) : Sp := fun vs H Q _ => ∃ (M : Mach) (mk : Int → Bool) (H0 : Hp) (a fd ld : Addr) (KK : List FE) (L : List Addr) (n i : Nat) (st : Stp), vs = [.ref a, .int (i : Nat)] ∧ M.Ok ∧ M.steps[i]? = some st ∧ TOk M mk KK ∧ ToM P w c M mk H0 H a fd ld KK L n ∧
  ∀ H' L' n', ToM P w c M mk H0 H' a fd ld (useJ mk st i KK) L' n' → TOk M mk (useJ mk st i KK) → Q .non H'
theorem sc_toUse : FnScope ["self", "index", "step", "ways", "letter", "longer", "state", "flag", "parts", "entry"] ["self", "index"] (defScope sToUse) := ⟨rfl, rfl, rfl, by decide +kernel, rfl, by decide +kernel, by decide +kernel⟩
theorem ok_toUse (T : Txt K mg c) {f : Addr} {fd : FuncData} (F : Fun K "use" "TakeOff.use" sToUse f fd) : FnOk P w K mg base CX0 2 f fd ["self", "index"] (spToUse P w c) := by
  obtain ⟨f2, fd2, F2, b2, m2⟩ := T.toEntries
  have G2 : FnOk P w K mg base CX0 1 f2 fd2 ["self", "state", "letter"] (spToEntries P w c) := ok_toEntries T F2
  refine F.ok sc_toUse (fun vs H Q E h => ?_) (fun cdv A outer s H vs Q E hr h => ?_)
  · obtain ⟨M, mk, H0, a, fd, ld, KK, L, n, i, st, rfl, _⟩ := h
    rfl
  · obtain ⟨M, mk, H0, a, fd, ld, KK, L, n, i, st, rfl, ok, hst, tok, tm, k⟩ := h
    have hu := hu_of hr
    refine ⟨_, (pss_cons (ps_set (i := 2) sc_toUse.nd rfl (by first | exact Or.inl rfl | exact Or.inr rfl) (pe_ix ix_tup (pe_fld (pe_fld (pv 0) rfl) rfl) (pv 1) (fun _ _ => rfl)))
      (pss_cons (ps_set (i := 3) sc_toUse.nd rfl (by first | exact Or.inl rfl | exact Or.inr rfl) (pe_lst (pa_cons (pe_tup (pa_cons (pe_fld (pv 2) rfl) (pa_cons (pe_cmp (pc_din hu (pv 1) (pe_fld (pv 0) rfl)) (by rfl)) (pa_cons (pe_tup pa_nil) pa_nil)))) pa_nil)))
      (pss_cons (ps_for PassesOwn.never rfl (pi_tup (pe_fld (pv 2) rfl)) (pg_name (i := 4) sc_toUse.nd rfl (by first | exact Or.inl rfl | exact Or.inr rfl))
          (pss_cons (ps_set (i := 5) sc_toUse.nd rfl (by first | exact Or.inl rfl | exact Or.inr rfl) (pe_lst pa_nil))
            (pss_cons (ps_for PassesOwn.never rfl (pi_list (pv 3)) (pg_tup rfl (pgs_cons (pg_name (i := 6) sc_toUse.nd rfl (by first | exact Or.inl rfl | exact Or.inr rfl)) (pgs_cons (pg_name (i := 7) sc_toUse.nd rfl (by first | exact Or.inl rfl | exact Or.inr rfl)) (pgs_cons (pg_name (i := 8) sc_toUse.nd rfl (by first | exact Or.inl rfl | exact Or.inr rfl)) pgs_nil))))
                (pss_one (ps_for PassesOwn.never rfl (pi_list (pe_meth (pv 0) T.to.cl m2 G2 hr b2 .nil pass0 (pa_cons (pv 6) (pa_cons (pv 4) pa_nil)))) (pg_name (i := 9) sc_toUse.nd rfl (by first | exact Or.inl rfl | exact Or.inr rfl))
                    (pss_one (ps_expr (pe_bm PySem.F.plainAttrs_list PySem.F.slot_list_append PySem.F.type_list_append mt_append (pv 5) (pa_cons (pe_tup (pa_cons (pe_ix ix_tup (pv 9) pe_int (fun _ _ => rfl)) (pa_cons (pe_or (pv 7) (pe_one (pe_ix ix_tup (pv 9) pe_int (fun _ _ => rfl)))) (pa_cons (pe_op op_catA (pv 8) (pe_tup (pa_cons (pv 9) pa_nil))) pa_nil)))) pa_nil)))))))
            (pss_one (ps_set (i := 3) sc_toUse.nd rfl (by first | exact Or.inl rfl | exact Or.inr rfl) (pv 5))))))
      (pss_one (ps_for PassesOwn.never rfl (pi_list (pv 3)) (pg_tup rfl (pgs_cons (pg_name (i := 6) sc_toUse.nd rfl (by first | exact Or.inl rfl | exact Or.inr rfl)) (pgs_cons (pg_name (i := 7) sc_toUse.nd rfl (by first | exact Or.inl rfl | exact Or.inr rfl)) (pgs_cons (pg_name (i := 8) sc_toUse.nd rfl (by first | exact Or.inl rfl | exact Or.inr rfl)) pgs_nil))))
          (pss_cons (ps_set (i := 9) sc_toUse.nd rfl (by first | exact Or.inl rfl | exact Or.inr rfl) (pe_tup (pa_cons (pe_fld (pv 2) rfl) (pa_cons (pe_fld (pv 2) rfl) (pa_cons (pv 6) (pa_cons (pv 7) pa_nil))))))
            (pss_one (ps_if (pt_cmp (pc_xnotin Ent hu (pv 9) (pe_fld (pv 0) rfl)) (by rfl))
                (pss_cons (ps_xput Ent hu (pe_fld (pv 0) rfl) (pv 9) (pe_tup (pa_cons (pv 1) (pa_cons (pv 8) pa_nil))) rfl)
                  (pss_one (ps_expr (pe_bm PySem.F.plainAttrs_list PySem.F.slot_list_append PySem.F.type_list_append mt_append (pe_xsetd Hd hu (pe_fld (pv 0) rfl) (pe_slice sl_tup (pv 9) po_none (po_some pe_int)) (pe_lst pa_nil) ⟨rfl, rfl, rfl, rfl⟩) (pa_cons (pv 9) pa_nil)))))
                pss_nil)))))))), ?_⟩
    obtain ⟨dx, m, md, h1, ⟨ma, mdx, mt, rfl, hma, sx, hsx, hsr⟩, hmk⟩ := id tm.ob
    obtain ⟨x, hx, sa, sd, tl, rfl, hsa, htl⟩ := hsr.get hst
    have s0 := tm.same
    have hK : KK.length ≤ 96 := tok.len ok
    have hlaid : st.laid.length ≤ 2 := (ok.fit st (List.mem_of_getElem? hst)).2.2.2.2.2.2.1
    refine q_set (v_ixT (ma_fld T (s0 _ _ hma) (to_fld T h1 (val_var rfl) (by simp) (toF_machine _ _ _ _)) (by simp) (machF_steps _ _)) (val_var rfl) (s0 _ _ hsx) (atI_nat hx)) ?_
    have fl : ∀ {σ : L2.St} {H' : Hp} {fn : Str} {v : V}, Same H0 H' → σ[2]? = some (some (.ref sa)) → fn ∈ (["state", "letter", "goal", "laid", "weight"] : List Str) → (stepF st tl).lookup fn = some v → Val (tFld K (tVar 2) fn) σ H' v := fun sm e hm hl => st_fld T (sm _ _ hsa) (val_var e) hm hl
    refine q_asg (t_lstE (tcons_E (t_tupE (v_cons (fl s0 rfl (by simp) (stepF_goal _ _)) (v_cons (v_in (val_var rfl) (to_fld T h1 (val_var rfl) (by simp) (toF_marked _ _ _ _)) hmk) (tcons_E (t_tup va_nil fun t0 ht0 => ?_)))))))
    refine ⟨by show 3 ≤ sizeLine; decide, fun b1 hb1 => ⟨by show 1 ≤ sizeLine; decide, fun p0 hp0 => ?_⟩⟩
    have s1 : Same H (upd (upd (upd H t0 (.tup [])) b1 (.tup [.int st.g, .bl (mk i), .ref t0])) p0 (.lst [.ref b1])) := sm_new (sm_new (sm_up ht0) hb1) hp0
    have w0 : wayR (upd (upd (upd H t0 (.tup [])) b1 (.tup [.int st.g, .bl (mk i), .ref t0])) p0 (.lst [.ref b1])) (st.g, mk i, []) (.ref b1) := ⟨b1, t0, [], rfl, sm_up hp0 _ _ upd_same, sm_up hp0 _ _ (sm_up hb1 _ _ upd_same), .nil⟩
    have hp1 : (upd (upd (upd H t0 (.tup [])) b1 (.tup [.int st.g, .bl (mk i), .ref t0])) p0 (.lst [.ref b1])) p0 = some (.lst [.ref b1]) := upd_same
    have hp00 : H p0 = none := (sm_up ht0).free ((sm_up hb1).free hp0)
    generalize (upd (upd (upd H t0 (.tup [])) b1 (.tup [.int st.g, .bl (mk i), .ref t0])) p0 (.lst [.ref b1])) = H1 at s1 w0 hp1
    -- the ways
    refine q_tup (xs := st.laid.map V.int) (fl (s0.trans s1) rfl (by simp) (stepF_laid _ _)) (SqT.of ((s0.trans s1) _ _ htl)) (fun j σ H' => Same H H' ∧ ∃ ws ys p o4 o5 o6 o7 o8 o9, σ = [some (.ref a), some (.int (i : Nat)), some (.ref sa), some (.ref p), o4, o5, o6, o7, o8, o9] ∧ H p = none ∧ H' p = some (.lst ys) ∧ All wayR H' ws ys ∧ waysJ (keysE KK) st.laid [(st.g, mk i, [])] = waysJ (keysE KK) (st.laid.drop j) ws ∧ ws.length ≤ 96 ^ j ∧ ∀ x ∈ ws, x.2.2.length ≤ j)
      ⟨s1, [(st.g, mk i, [])], _, p0, _, _, _, _, _, _, rfl, hp00, hp1, .cons w0 .nil, rfl, Nat.le_refl _, by simp⟩ (fun j σ H' p => SqT.of ((s0.trans p.1) _ _ htl)) ?_ ?_
    · rintro j x σ H2 hx2 ⟨s2, ws, ys, p, o4, o5, o6, o7, o8, o9, rfl, hp, hpl, hws, ew, hlen, hpl2⟩
      obtain ⟨l, hl, rfl⟩ := ints_get hx2
      rw [drop_at hl] at ew
      simp only [waysJ] at ew
      have hj : j < 2 := Nat.lt_of_lt_of_le (List.getElem?_eq_some_iff.mp hl).1 hlaid
      have hF : (ws.flatMap (longerJ (keysE KK) l)).length ≤ 96 ^ (j + 1) := by
        refine Nat.le_trans (flat_len _ 96 (fun a => ?_) ws) ?_
        · unfold longerJ
          rw [List.length_map]
          exact Nat.le_trans (atHd_len _ _) (by rw [keysE_len]; exact hK)
        · rw [Nat.pow_succ]; exact Nat.mul_le_mul_right _ hlen
      have hF2 : (ws.flatMap (longerJ (keysE KK) l)).length ≤ 9216 := by
        have : j = 0 ∨ j = 1 := by omega
        rcases this with rfl | rfl
        · exact Nat.le_trans hF (by decide)
        · exact Nat.le_trans hF (by decide)
      refine g_name ?_
      refine q_asgL va_nil fun lg hlg => ?_
      have hlg0 : H lg = none := s2.free hlg
      have nplg : p ≠ lg := ne_of_none hpl hlg
      refine q_list (xs := ys) (val_var rfl) (SqL.of (sm_up hlg _ _ hpl)) (fun i2 σ H' => Same H H' ∧ Tp H2 H' ∧ (∃ o6 o7 o8 o9, σ = [some (.ref a), some (.int (i : Nat)), some (.ref sa), some (.ref p), some (.int l), some (.ref lg), o6, o7, o8, o9]) ∧ H' p = some (.lst ys) ∧ ∃ acc, H' lg = some (.lst acc) ∧ All wayR H' ((ws.take i2).flatMap (longerJ (keysE KK) l)) acc)
        ⟨sm_new s2 hlg, .new hlg, ⟨_, _, _, _, rfl⟩, sm_up hlg _ _ hpl, [], upd_same, .nil⟩ (fun i2 σ H' q => SqL.of q.2.2.2.1) ?_ ?_
      · rintro i2 x σ H3 hx3 ⟨s3, t3, ⟨o6, o7, o8, o9, rfl⟩, hp3, acc, hacc, racc⟩
        obtain ⟨wy, hwy, wa, wt, wps, rfl, hwa, hwt, hwps⟩ := hws.get' hx3
        refine g_three (t3 _ _ hwa) ?_
        have mm3 := tm.lv.same keyR_m s3
        refine s_listE (e_meth (val_var rfl) (s3 _ _ h1) (toF_no _ _ _ _ (by decide +kernel) (by decide +kernel) (by decide +kernel) (by decide +kernel)) (va_cons (val_var rfl) (va_cons (val_var rfl) va_nil)) ⟨a, dx, md, fd, ld, .ref ma, L, n, _, wy.1, l, rfl, s3 _ _ h1, mm3, fun q zs H4 s4 hq4 hqo hzs => ?_⟩)
        have nq : q ≠ lg := by
          rcases hqo with z | z
          · exact fun e => tm.lv.live hlg0 (by rw [← e]; exact z)
          · exact fun e => by rw [e, hacc] at z; cases z
        refine ⟨q, rfl, ⟨zs, SqL.of hq4⟩, lpL (xs := zs) (fun i3 σ H' => Same H H' ∧ Tp H4 H' ∧ (∃ o9, σ = [some (.ref a), some (.int (i : Nat)), some (.ref sa), some (.ref p), some (.int l), some (.ref lg), some (.int wy.1), some (.bl wy.2.1), some (.ref wt), o9]) ∧ H' p = some (.lst ys) ∧ H' q = some (.lst zs) ∧
            ∃ acc, H' lg = some (.lst acc) ∧ All wayR H' ((ws.take i2).flatMap (longerJ (keysE KK) l) ++ (longerJ (keysE KK) l wy).take i3) acc)
          ⟨s3.trans s4, Tp.refl _, ⟨_, rfl⟩, s4 _ _ hp3, hq4, acc, s4 _ _ hacc, by simpa using racc.mono wayR_m (.same s4)⟩ (fun i3 σ H' q => SqL.of q.2.2.2.2.1) ?_ ?_⟩
        · rintro i3 x σ H5 hx5 ⟨s5, t5, ⟨o9, rfl⟩, hp5, hq5, acc5, hacc5, racc5⟩
          obtain ⟨e, he, ea, rfl, hea⟩ := hzs.get' hx5
          have hea5 := t5 _ _ hea
          have hwt5 : H5 wt = some (.tup wps) := t5 _ _ (s4 _ _ (t3 _ _ hwt))
          refine g_name ?_
          refine s_append (val_var rfl) hacc5 (t_tupE (v_cons (v_ixT (val_var rfl) val_c hea5 (atI_nat (j := 2) rfl)) (tcons_E (v_or (val_var rfl) (fun _ => v_ixT (val_var rfl) val_c hea5 (atI_nat (j := 3) rfl)) _ ?_))))
          have wl : wy.2.2.length ≤ j := hpl2 wy (List.mem_of_getElem? hwy)
          refine tcons_E ((e_catT (val_var rfl) hwt5 (new1_tup (va_cons (val_var rfl) va_nil)) (by rw [← hwps.len]; simp; omega)).run fun b6 H6 s6 hb6 => ⟨by show 3 ≤ sizeLine; decide, fun b7 hb7 => ?_⟩)
          have s7 : Same H5 (upd H6 b7 (.tup [.int e.g, .bl (wy.2.1 || e.f), .ref b6])) := sm_new s6 hb7
          have hacc7 := s7 _ _ hacc5
          have w7 : wayR (upd H6 b7 (.tup [.int e.g, .bl (wy.2.1 || e.f), .ref b6])) (e.g, wy.2.1 || e.f, wy.2.2 ++ [e]) (.ref b7) := by
            refine ⟨b7, b6, _, rfl, upd_same, sm_up hb7 _ _ hb6, ?_⟩
            have hw5 : All entR (upd H6 b7 (.tup [.int e.g, .bl (wy.2.1 || e.f), .ref b6])) wy.2.2 wps := hwps.mono keyR_m (((t3.trans (.same s4)).trans t5).trans (.same s7))
            exact hw5.snoc ⟨ea, rfl, s7 _ _ hea5⟩
          have hel : (longerJ (keysE KK) l wy)[i3]? = some (e.g, wy.2.1 || e.f, wy.2.2 ++ [e]) := by
            unfold longerJ; rw [List.getElem?_map, he]; rfl
          generalize (upd H6 b7 (.tup [.int e.g, .bl (wy.2.1 || e.f), .ref b6])) = H7 at s7 hacc7 w7
          refine ⟨acc5, hacc7, big6 ?_, ?_⟩
          · have l1 := racc5.len
            have l2 : (ws.take (i2 + 1)).flatMap (longerJ (keysE KK) l) = (ws.take i2).flatMap (longerJ (keysE KK) l) ++ longerJ (keysE KK) l wy := by rw [take_succ' hwy]; simp
            have l3 : ((ws.take (i2 + 1)).flatMap (longerJ (keysE KK) l)).length ≤ (ws.flatMap (longerJ (keysE KK) l)).length := by
              conv => rhs; rw [← List.take_append_drop (i2 + 1) ws]
              rw [List.flatMap_append, List.length_append]; omega
            rw [l2] at l3
            simp only [List.length_append, List.length_take] at l1 l3
            omega
          · have tp := Tp.lst (o := .lst (acc5 ++ [.ref b7])) hacc7
            refine ⟨sm_own (s5.trans s7) hlg0, (t5.trans (.same s7)).trans tp, ⟨_, rfl⟩, by rw [upd_ne nplg]; exact s7 _ _ hp5, by rw [upd_ne nq]; exact s7 _ _ hq5, _, upd_same, ?_⟩
            rw [take_succ' hel, ← List.append_assoc]
            exact (racc5.mono wayR_m ((Tp.same s7).trans tp)).snoc (wayR_m.mono tp w7)
        · rintro σ H5 ⟨s5, t5, ⟨o9, rfl⟩, hp5, hq5, acc5, hacc5, racc5⟩
          refine ⟨s5, (t3.trans (.same s4)).trans t5, ⟨_, _, _, _, rfl⟩, hp5, acc5, hacc5, ?_⟩
          have e1 : zs.length = (longerJ (keysE KK) l wy).length := by unfold longerJ; rw [List.length_map, hzs.len]
          rw [e1, List.take_length] at racc5
          rw [take_succ' hwy]
          simpa using racc5
      · rintro σ H3 ⟨s3, t3, ⟨o6, o7, o8, o9, rfl⟩, hp3, acc, hacc, racc⟩
        rw [← hws.len, List.take_length] at racc
        refine s_set (val_var rfl) ⟨s3, _, acc, lg, _, _, _, _, _, _, rfl, hlg0, hacc, racc, ew, hF, fun x hx => ?_⟩
        obtain ⟨y, hy, hx⟩ := List.mem_flatMap.mp hx
        obtain ⟨e, _, rfl⟩ := List.mem_map.mp hx
        have := hpl2 y hy
        simp
        omega
    · rintro σ H2 ⟨s2, ws, ys, p, o4, o5, o6, o7, o8, o9, rfl, hp, hpl, hws, ew, hlen, hpl2⟩
      rw [List.length_map, List.drop_length] at ew
      simp only [waysJ] at ew
      have tm2 := tm.up s2
      have hpL : p ∉ L := tm.lv.live hp
      have hpfd : p ≠ fd := fun z => by
        obtain ⟨φ, q⟩ := tm.fnd.ext
        rw [← z, hp] at q; cases q
      have eu : useJ mk st i KK = ws.foldl (add1 st i) KK := by unfold useJ; rw [ew]
      refine s_list (xs := ys) (val_var rfl) (SqL.of hpl) (fun i2 σ H' => Lo H2 H' ∧ (∃ o4 o5 o6 o7 o8 o9, σ = [some (.ref a), some (.int (i : Nat)), some (.ref sa), some (.ref p), o4, o5, o6, o7, o8, o9]) ∧ H' p = some (.lst ys) ∧ ∃ L' n', ToM P w c M mk H0 H' a fd ld ((ws.take i2).foldl (add1 st i) KK) L' n' ∧ TOk M mk ((ws.take i2).foldl (add1 st i) KK) ∧ p ∉ L')
        ⟨Lo.refl _, ⟨_, _, _, _, _, _, rfl⟩, hpl, L, n, tm2, tok, hpL⟩ (fun i2 σ H' q => SqL.of q.2.2.1) ?_ ?_
      · rintro i2 x σ H3 hx3 ⟨lo3, ⟨o4, o5, o6, o7, o8, o9, rfl⟩, hp3, L3, n3, tm3, tok3, hL3⟩
        obtain ⟨wy, hwy, wa, wt, wps, rfl, hwa, hwt, hwps⟩ := hws.get' hx3
        refine g_three (lo3.tup hwa) ?_
        have s3 := tm3.same
        refine q_asgT (va_cons (fl s3 rfl (by simp) (stepF_state _ _)) (va_cons (fl s3 rfl (by simp) (stepF_letter _ _)) (va_cons (val_var rfl) (va_cons (val_var rfl) va_nil)))) fun ea hea => ?_
        have s4 : Same H3 (upd H3 ea (.tup [.int st.s, .int st.l, .int wy.1, .bl wy.2.1])) := sm_up hea
        have hea4 : (upd H3 ea (.tup [.int st.s, .int st.l, .int wy.1, .bl wy.2.1])) ea = some (.tup (DKey.vs (entOf st wy))) := upd_same
        generalize (upd H3 ea (.tup [.int st.s, .int st.l, .int wy.1, .bl wy.2.1])) = H4 at s4 hea4
        have tm4 := tm3.up s4
        obtain ⟨kvs, dk4, pk4⟩ := tm4.fnd
        obtain ⟨dx4, m4, md4, h14, _⟩ := tm4.ob
        have efold : (ws.take (i2 + 1)).foldl (add1 st i) KK = add1 st i ((ws.take i2).foldl (add1 st i) KK) wy := by rw [take_succ' hwy, List.foldl_append]; rfl
        have hwok : WayOk mk st i KK wy := ways_ok (by rw [ew]; exact List.mem_of_getElem? hwy)
        have hext : PR.Ext KK ((ws.take i2).foldl (add1 st i) KK) := ext_fold st i _ _
        refine s_ifE (a_testE (e_xnin (k := entOf st wy) (new1_val (val_var rfl) hea4) (fun H5 s5 => to_fld T (s5 _ _ h14) (val_var rfl) (by simp) (toF_found _ _ _ _)) dk4.rd fun H5 s5 => ⟨_, rfl, ?_⟩))
        rw [valV_isSome, pair_keys pk4]
        have tm5 := tm4.up s5
        have lo5 : Lo H2 H5 := (lo3.trans (.same s4)).trans (.same s5)
        have hp5 : H5 p = some (.lst ys) := s5 _ _ (s4 _ _ hp3)
        by_cases hin : entOf st wy ∈ keysE ((ws.take i2).foldl (add1 st i) KK)
        · rw [decide_eq_true (show entOf st wy ∈ ((ws.take i2).foldl (add1 st i) KK).map (·.1) from hin)]
          have ea1 : add1 st i ((ws.take i2).foldl (add1 st i) KK) wy = (ws.take i2).foldl (add1 st i) KK := add1_old hin
          refine iteF ⟨lo5, ⟨_, _, _, _, _, _, rfl⟩, hp5, L3, n3, ?_, ?_, hL3⟩
          · rw [efold, ea1]; exact tm5
          · rw [efold, ea1]; exact tok3
        · rw [decide_eq_false (show ¬ entOf st wy ∈ ((ws.take i2).foldl (add1 st i) KK).map (·.1) from hin)]
          have ea1 : add1 st i ((ws.take i2).foldl (add1 st i) KK) wy = (ws.take i2).foldl (add1 st i) KK ++ [(entOf st wy, i, wy.2.2)] := add1_new hin
          have tokN : TOk M mk ((ws.take (i2 + 1)).foldl (add1 st i) KK) := by rw [efold]; exact tok3.add1 ok hst (hwok.ext hext).1 (hwok.ext hext).2
          have hKl : ((ws.take i2).foldl (add1 st i) KK).length ≤ 96 := tok3.len ok
          have h15 := s5 _ _ h14
          refine iteT ?_
          refine q_xputN (k := entOf st wy) (new1_tup (va_cons (val_var rfl) (va_cons (val_var rfl) va_nil))) (fun H6 s6 => to_fld T (s6 _ _ h15) (val_var rfl) (by simp) (toF_found _ _ _ _)) (fun H6 s6 => new1_val (val_var rfl) (s6 _ _ (s5 _ _ hea4))) (dk4.same s5) (by rw [MapM.len pk4]; omega) fun vb H6 H7 s6 hvb h7 => ?_
          obtain ⟨dm7, fr7, lo7⟩ := DXm.put h7 (dk4.same (s5.trans s6))
          have fe6 : feR H6 (i, wy.2.2) (.ref vb) := ⟨vb, wt, wps, rfl, hvb, s6 _ _ (lo5.tup hwt), hwps.mono keyR_m (lo5.tp.trans (.same s6))⟩
          have tm6 := tm5.up s6
          have map7 : MapM feR P w H7 fd (((ws.take i2).foldl (add1 st i) KK) ++ [(entOf st wy, i, wy.2.2)]) :=
            MapM.add feR_m tm6.fnd hin fe6 (Paired.mapP pk4 fun _ _ z => ⟨z.1, feR_m.mono (.same (s5.trans s6)) z.2⟩) (dk4.same (s5.trans s6)) h7
          have hnd7 : ∀ b ∈ L3, H7 b = H6 b := fun b hb => by
            obtain ⟨zs, q1, _⟩ := h7
            rw [q1, upd_ne fun z => tm3.fdL (by rw [← z]; exact hb)]
          have mm7 := tm6.lv.frame keyR_m hnd7 lo7.tp
          have hea7 : H7 ea = some (.tup (DKey.vs (entOf st wy))) := lo7.tup (s6 _ _ (s5 _ _ hea4))
          have h17 := lo7.ins (s6 _ _ h15)
          refine mmAdd (h := (entOf st wy).hd) (b0 := entOf st wy) keyR_m mm7 (to_fld T h17 (val_var rfl) (by simp) (toF_leaving _ _ _ _)) (e_pre2 (val_var rfl) hea7) (by have := tm3.cnt; omega) (Nat.lt_of_le_of_lt (atHd_len _ _) (by rw [keysE_len]; omega)) (fun H8 Q8 lo8 fr8 q8 => val_var rfl _ (q8 _ H8 (Same.refl _) ⟨ea, rfl, lo8.tup hea7⟩)) fun H8 lo8 fr8 ⟨L8, mm8, hL8⟩ => ?_
          have s07 : Same H0 H7 := fr7.base tm6.same fun b z => by rw [List.mem_singleton.mp z]; exact tm3.ffd
          have s08 : Same H0 H8 := fr8.base s07 tm3.fL
          have hp7 : H7 p = some (.lst ys) := by
            obtain ⟨zs, q1, _⟩ := h7
            rw [q1, upd_ne hpfd]; exact s6 _ _ hp5
          refine ⟨((lo5.trans (.same s6)).trans lo7).trans lo8, ⟨_, _, _, _, _, _, rfl⟩, fr8 _ _ hp7 hL3, L8, n3 + 1, ⟨s08, ?_, ?_, ?_, tm3.fa, tm3.ffd, fun b hb => ?_, fun z => ?_, ?_⟩, tokN, fun z => ?_⟩
          · obtain ⟨dxx, mx, mdx', g1, g2, g3⟩ := tm6.ob
            exact ⟨dxx, mx, mdx', lo8.ins (lo7.ins g1), g2, (g3.lo lo7).lo lo8⟩
          · rw [efold, ea1]
            refine map7.stay feR_m ?_ lo8.tp
            obtain ⟨φ, q⟩ := map7.ext
            rw [q]; exact fr8 _ _ q tm3.fdL
          · rw [efold, ea1]
            refine mm8.congr fun h => ?_
            have : keysE ((ws.take i2).foldl (add1 st i) KK ++ [(entOf st wy, i, wy.2.2)]) = keysE ((ws.take i2).foldl (add1 st i) KK) ++ [entOf st wy] := by simp [keysE]
            rw [this, atHd_snoc]
          · rcases hL8 b hb with z | z
            · exact tm3.fL b z
            · exact s07.free z
          · rcases hL8 _ z with z | z
            · exact tm3.fdL z
            · obtain ⟨φ, q⟩ := map7.ext
              rw [q] at z; cases z
          · rw [efold, ea1, List.length_append, List.length_singleton]
            have := tm3.cnt
            omega
          · rcases hL8 _ z with z | z
            · exact hL3 z
            · rw [hp7] at z; cases z
      · rintro σ H3 ⟨lo3, _, hp3, L3, n3, tm3, tok3, hL3⟩
        rw [← hws.len, List.take_length] at tm3 tok3
        rw [eu] at k
        exact k _ _ _ tm3 tok3
end
end PW
end

section
set_option Elab.async false
set_option maxRecDepth 100000
set_option maxHeartbeats 4000000
set_option linter.all false
/-! Walks: TakeOff.__init__. -/
namespace PW
open PySem L2 PX PR
section
variable {P : Program} {w : World} {K : PySem.W.Frag} {mg : Str → Option Value} {base : Heap} {c : Cs}
theorem q_whileE {σ : L2.St} {H : Hp} {c : TT} {tb tz : TS} {D : Ends} (W : Nat → L2.St → Hp → Prop) (h0 : ∃ m, W m σ H)
    (hs : ∀ m σ H, W m σ H → c σ H fun b H1 => if b = true then ∃ N : L2.St → Hp → Prop, (∀ σ' H', N σ' H' → ∃ m', m' < m ∧ W m' σ' H') ∧ tb { D with nx := N, ct := N, bk := tz D } σ H1 else tz D σ H1) : tSeq (tWhile c tb) tz D σ H := ⟨W, h0, hs⟩
theorem s_whileE {σ : L2.St} {H : Hp} {c : TT} {tb : TS} {D : Ends} (W : Nat → L2.St → Hp → Prop) (h0 : ∃ m, W m σ H)
    (hs : ∀ m σ H, W m σ H → c σ H fun b H1 => if b = true then ∃ N : L2.St → Hp → Prop, (∀ σ' H', N σ' H' → ∃ m', m' < m ∧ W m' σ' H') ∧ tb { D with nx := N, ct := N, bk := D.nx } σ H1 else D.nx σ H1) : tWhile c tb D σ H := ⟨W, h0, hs⟩
theorem v_lenX {κ : Type} [DecidableEq κ] [DKey κ] {σ : L2.St} {H : Hp} {te : TE} {a : Addr} {kvs : List (κ × V)} (h : Val te σ H (.ref a)) (d : DX P w H a kvs) :
    Val (tCB (fun xs H Q => ∃ (a : Addr) (kvs : List (κ × V)), xs = [V.ref a] ∧ DX P w H a kvs ∧ Q (.int kvs.length) H) (tCons te tNil)) σ H (.int (kvs.length : Nat)) := fun Q q => h _ ⟨a, kvs, rfl, d, q⟩
theorem marks_of {H : Hp} {d : Addr} {ns ms : List Int} (h : IntD H d ns) (e : ∀ n, n ∈ ns ↔ n ∈ ms) : MarksAt (mkOf ms) H d := by
  obtain ⟨kvs, h1, h2⟩ := h
  refine ⟨kvs, .inl h1, fun i => ?_⟩
  rw [Bool.eq_iff_iff, mkOf, decide_eq_true_eq, ← e]
  unfold valV
  rw [Option.isSome_map, List.find?_isSome]
  constructor
  · rintro ⟨p, hp, q⟩
    have hm : p.1 ∈ kvs.map (·.1) := List.mem_map.mpr ⟨p, hp, rfl⟩
    rw [h2] at hm
    obtain ⟨x, hx, q2⟩ := List.mem_map.mp hm
    have q3 : p.1 = Sum.inl i := by simpa using q
    rw [q3] at q2
    cases q2
    exact hx
  · intro hx
    have hm : (Sum.inl i : Key) ∈ kvs.map (·.1) := by rw [h2]; exact List.mem_map.mpr ⟨i, hx, rfl⟩
    obtain ⟨p, hp, q⟩ := List.mem_map.mp hm
    exact ⟨p, hp, by simpa using q⟩
theorem roundJ_cons {mk : Int → Bool} {l : List Stp} {i : Nat} {st : Stp} (h : l[i]? = some st) (KK : List FE) : roundJ mk (l.drop i) i KK = roundJ mk (l.drop (i + 1)) (i + 1) (useJ mk st i KK) := by
  rw [drop_at h]; rfl
def spToInit (P : Program) (w : World) (c : Cs) : Sp := fun vs H Q _ => ∃ (M : Mach) (ms : List Int) (H0 : Hp) (p dx : Addr) (m mv : V), vs = [.ref p, m, mv] ∧ Same H0 H ∧ H0 p = none ∧ machR c H0 M m ∧ M.Ok ∧ tupR intR H0 ms mv ∧ ms.length ≤ 1000 ∧ H p = some (.ins c.to dx []) ∧
  ∀ H' fd ld KK L n, ToM P w c M (mkOf ms) H0 H' p fd ld KK L n → TakeOk M (mkOf ms) KK → TOk M (mkOf ms) KK → Q .non H'
theorem sc_toInit : FnScope ["self", "machine", "marked", "index", "changed", "before"] ["self", "machine", "marked"] (defScope sToInit) := ⟨rfl, rfl, rfl, by decide +kernel, rfl, by decide +kernel, by decide +kernel⟩
theorem ok_toInit (T : Txt K mg c) {f : Addr} {fd : FuncData} (F : Fun K "__init__" "TakeOff.__init__" sToInit f fd) : FnOk P w K mg base CX0 3 f fd ["self", "machine", "marked"] (spToInit P w c) := by
  obtain ⟨f2, fd2, F2, b2, m2⟩ := T.toUse
  have G2 : FnOk P w K mg base CX0 2 f2 fd2 ["self", "index"] (spToUse P w c) := ok_toUse T F2
  refine F.ok sc_toInit (fun vs H Q E h => ?_) (fun cdv A outer s H vs Q E hr h => ?_)
  · obtain ⟨M, ms, H0, p, dx, m, mv, rfl, _⟩ := h
    rfl
  · obtain ⟨M, ms, H0, p, dx, m, mv, rfl, s0, p0, hm, ok, ⟨mt, xs, rfl, hmt, hms⟩, hml, hp, k⟩ := h
    have hms' := all_ints hms
    subst hms'
    have hu := hu_of hr
    refine ⟨_, (pss_cons (ps_fld (pv 0) (pv 1) rfl)
      (pss_cons (ps_fld (pv 0) pe_dnewK rfl)
      (pss_cons (ps_for PassesOwn.never rfl (pi_tup (pv 2)) (pg_name (i := 3) sc_toInit.nd rfl (by first | exact Or.inl rfl | exact Or.inr rfl))
          (pss_one (ps_dput hu (pe_fld (pv 0) rfl) (pv 3) pe_bl rfl)))
      (pss_cons (ps_fld (pv 0) (pe_xnew Ent) rfl)
      (pss_cons (ps_fld (pv 0) (pe_xnew Hd) rfl)
      (pss_cons (ps_set (i := 4) sc_toInit.nd rfl (by first | exact Or.inl rfl | exact Or.inr rfl) pe_bl)
      (pss_one (ps_while PassesOwn.never (pt_val (pv 4))
          (pss_cons (ps_set (i := 5) sc_toInit.nd rfl (by first | exact Or.inl rfl | exact Or.inr rfl) (pe_callB (call_lenX Ent) (by rfl) T.b PySem.boot_len (pa_cons (pe_fld (pv 0) rfl) pa_nil)))
            (pss_cons (ps_for PassesOwn.never rfl (pi_range1 (by rfl) T.b (pa_cons (pe_callB call_len_seq (by rfl) T.b PySem.boot_len (pa_cons (pe_fld (pv 1) rfl) pa_nil)) pa_nil)) (pg_name (i := 3) sc_toInit.nd rfl (by first | exact Or.inl rfl | exact Or.inr rfl))
                (pss_one (ps_expr (pe_meth (pv 0) T.to.cl m2 G2 hr b2 .nil pass0 (pa_cons (pv 3) pa_nil)))))
            (pss_one (ps_set (i := 4) sc_toInit.nd rfl (by first | exact Or.inl rfl | exact Or.inr rfl) (pe_cmpR op_gt (pe_callB (call_lenX Ent) (by rfl) T.b PySem.boot_len (pa_cons (pe_fld (pv 0) rfl) pa_nil)) (pv 5) (nomark _)))))))))))))), ?_⟩
    have NA := T.to
    refine q_fldE (val_var rfl _ (val_var rfl _ ⟨p, c.to, dx, [], rfl, hp, NA.cl, NA.no _ (by simp), (by decide), ?_⟩))
    refine q_fldE (te := tDNewK) fun md hmd => ?_
    have nmp : md ≠ p := fun z => by rw [z, upd_same] at hmd; cases hmd
    have hmd0 : H0 md = none := s0.free (by rw [upd_ne nmp] at hmd; exact hmd)
    refine val_var rfl _ ⟨p, c.to, dx, _, rfl, by rw [upd_ne nmp.symm, upd_same], NA.cl, NA.no _ (by simp), few (len_put (n := 0) (Nat.le_refl _)) (by decide), ?_⟩
    have s1 : Same H0 (upd (upd (upd H p (.ins c.to dx (putF "machine" m []))) md (.dK [])) p (.ins c.to dx (putF "marked" (.ref md) (putF "machine" m [])))) := sm_own (sm_own (sm_own s0 p0) hmd0) p0
    have d1 : IntD (upd (upd (upd H p (.ins c.to dx (putF "machine" m []))) md (.dK [])) p (.ins c.to dx (putF "marked" (.ref md) (putF "machine" m [])))) md [] := ⟨[], by rw [upd_ne nmp, upd_same], rfl⟩
    have p1 : (upd (upd (upd H p (.ins c.to dx (putF "machine" m []))) md (.dK [])) p (.ins c.to dx (putF "marked" (.ref md) (putF "machine" m [])))) p = some (.ins c.to dx (putF "marked" (.ref md) (putF "machine" m []))) := upd_same
    generalize (upd (upd (upd H p (.ins c.to dx (putF "machine" m []))) md (.dK [])) p (.ins c.to dx (putF "marked" (.ref md) (putF "machine" m [])))) = H1 at s1 d1 p1
    refine q_tup (xs := ms.map V.int) (val_var rfl) (SqT.of (s1 _ _ hmt)) (fun i σ H' => Same H0 H' ∧ (∃ o3 o4 o5, σ = [some (.ref p), some m, some (.ref mt), o3, o4, o5]) ∧ H' p = some (.ins c.to dx (putF "marked" (.ref md) (putF "machine" m []))) ∧ IntD H' md ((ms.take i).foldl ins []))
      ⟨s1, ⟨_, _, _, rfl⟩, p1, d1⟩ (fun i σ H' q => SqT.of (q.1 _ _ hmt)) ?_ ?_
    · rintro i x σ H2 hx ⟨s2, ⟨o3, o4, o5, rfl⟩, p2, d2⟩
      obtain ⟨n, hn, rfl⟩ := ints_get hx
      refine g_name ?_
      refine intD_put d2 val_c (to_fld T p2 (val_var rfl) (by simp) lk_hit) (val_var rfl) ?_ fun kvs d3 => ⟨sm_own s2 hmd0, ⟨_, _, _, rfl⟩, by rw [upd_ne nmp.symm]; exact p2, ?_⟩
      · refine Nat.lt_of_le_of_lt (nodup_le (foldl_ins_nodup List.nodup_nil) (m := ms) fun x hx => ?_) (by omega)
        rw [mem_foldl_ins] at hx
        exact hx.elim (fun z => by cases z) fun z => List.mem_of_mem_take z
      · rw [take_succ' hn, List.foldl_append]
        exact d3
    · rintro σ H2 ⟨s2, ⟨o3, o4, o5, rfl⟩, p2, d2⟩
      rw [List.length_map, List.take_length] at d2
      refine q_fldE (e_xnew fun fd H3 hfd e3 d3 => ?_)
      have nfp : fd ≠ p := fun z => by rw [z, p2] at hfd; cases hfd
      have nfm : fd ≠ md := fun z => by
        obtain ⟨kvs, q, _⟩ := d2
        rw [z, q] at hfd; cases hfd
      have hfd0 : H0 fd = none := s2.free hfd
      refine val_var rfl _ ⟨p, c.to, dx, _, rfl, by rw [e3, upd_ne nfp.symm]; exact p2, NA.cl, NA.no _ (by simp), few (len_put (len_put (n := 0) (Nat.le_refl _))) (by decide), ?_⟩
      refine q_fldE (e_xnew fun ld H4 hld e4 d4 => ?_)
      have nlp : ld ≠ p := fun z => by rw [z, upd_same] at hld; cases hld
      have nlf : ld ≠ fd := fun z => by rw [z, upd_ne nfp, e3, upd_same] at hld; cases hld
      have nlm : ld ≠ md := fun z => by
        obtain ⟨kvs, q, _⟩ := d2
        rw [z, upd_ne nmp, e3, upd_ne nfm.symm, q] at hld; cases hld
      have hld0 : H0 ld = none := s2.free (by rw [upd_ne nlp, e3, upd_ne nlf] at hld; exact hld)
      refine val_var rfl _ ⟨p, c.to, dx, _, rfl, by rw [e4, upd_ne nlp.symm, upd_same], NA.cl, NA.no _ (by simp), few (len_put (len_put (len_put (n := 0) (Nat.le_refl _)))) (by decide), ?_⟩
      have tm : ToM P w c M (mkOf ms) H0 (upd H4 p (.ins c.to dx (toF m md fd ld))) p fd ld [] [ld] 0 := by
        refine ⟨?_, ⟨dx, m, md, upd_same, hm, ?_⟩, ?_, ?_, p0, hfd0, fun b hb => by rw [List.mem_singleton.mp hb]; exact hld0, fun z => nlf (List.mem_singleton.mp z).symm, Nat.le_refl _⟩
        · rw [e4, e3]
          exact sm_own (sm_own (sm_own (sm_own s2 hfd0) p0) hld0) p0
        · refine marks_of (ns := ms.foldl ins []) ?_ fun n => by rw [mem_foldl_ins]; simp
          obtain ⟨kvs, q1, q2⟩ := d2
          exact ⟨kvs, by rw [upd_ne nmp, e4, upd_ne nlm.symm, upd_ne nmp, e3, upd_ne nfm.symm]; exact q1, q2⟩
        · obtain ⟨ys, q1, q2⟩ := d3
          cases q2
          refine ⟨[], ⟨[], ?_, .nil⟩, .nil⟩
          rw [upd_ne nfp, e4, upd_ne nlf.symm, upd_ne nfp]; exact q1
        · have : DXm P w (upd H4 p (.ins c.to dx (toF m md fd ld))) ld ([] : List (Hd × V)) := by
            obtain ⟨ys, q1, q2⟩ := d4
            cases q2
            exact ⟨[], by rw [upd_ne nlp]; exact q1, .nil⟩
          exact MM.new this
      refine q_set val_c ?_
      refine s_whileE (fun μ σ H' => ∃ (chg : Bool) (KK : List FE) (L : List Addr) (n : Nat) (o3 o5 : Option V), σ = [some (.ref p), some m, some (.ref mt), o3, some (.bl chg), o5] ∧ ToM P w c M (mkOf ms) H0 H' p fd ld KK L n ∧ TOk M (mkOf ms) KK ∧ (chg = false → roundJ (mkOf ms) M.steps 0 KK = KK) ∧ μ = 2 * (97 - KK.length) + (if chg then 1 else 0))
        ⟨_, true, [], [ld], 0, _, _, rfl, tm, .nil, fun z => (by cases z), rfl⟩ ?_
      rintro μ σ H5 ⟨chg, KK, L, n, o3', o5', rfl, tm5, tok, hfix, hμ⟩
      refine a_val (val_var rfl) _ ?_
      cases chg with
      | false => exact iteF (k _ _ _ _ _ _ tm5 (.of tok (hfix rfl)) tok)
      | true =>
        refine iteT ⟨_, fun _ _ h => h, ?_⟩
        obtain ⟨dx5, m5, md5, h15, hm5, _⟩ := id tm5.ob
        obtain ⟨kvs5, dk5, pk5⟩ := id tm5.fnd
        refine q_set (v_lenX (to_fld T h15 (val_var rfl) (by simp) (toF_found _ _ _ _)) dk5.rd) ?_
        rw [MapM.len pk5]
        obtain ⟨ma, mdx, mst, rfl, hma, sx, hsx, hsr⟩ := id hm
        have hsl : sx.length = M.steps.length := hsr.len.symm
        refine q_range1 (n := sx.length) (by rw [hsl]; have := ok.n10; omega) (v_len (ma_fld T (tm5.same _ _ hma) (val_var rfl) (by simp) (machF_steps _ _)) (.inr (SqT.of (tm5.same _ _ hsx)))) (fun i σ H' => ∃ (K2 : List FE) (L2 : List Addr) (n2 : Nat) (o3 : Option V), σ = [some (.ref p), some (.ref ma), some (.ref mt), o3, some (.bl true), some (.int (KK.length : Nat))] ∧ ToM P w c M (mkOf ms) H0 H' p fd ld K2 L2 n2 ∧ TOk M (mkOf ms) K2 ∧ roundJ (mkOf ms) M.steps 0 KK = roundJ (mkOf ms) (M.steps.drop i) i K2)
          ⟨KK, L, n, _, rfl, tm5, tok, rfl⟩ ?_ ?_
        · rintro i σ H6 hi ⟨K2, L2, n2, o3'', rfl, tm6, tok6, er⟩
          obtain ⟨st, hst⟩ : ∃ st, M.steps[i]? = some st := ⟨_, List.getElem?_eq_getElem (by omega)⟩
          obtain ⟨dx6, m6, md6, h16, _⟩ := id tm6.ob
          refine g_name ?_
          refine s_drop (e_meth (val_var rfl) h16 (toF_no _ _ _ _ (by decide +kernel) (by decide +kernel) (by decide +kernel) (by decide +kernel)) (va_cons (val_var rfl) va_nil) ⟨M, mkOf ms, H0, p, fd, ld, K2, L2, n2, i, st, rfl, ok, hst, tok6, tm6, fun H7 L7 n7 tm7 tok7 => ?_⟩)
          exact ⟨_, L7, n7, _, rfl, tm7, tok7, by rw [er, roundJ_cons hst]⟩
        · rintro σ H6 ⟨K2, L2, n2, o3'', rfl, tm6, tok6, er⟩
          rw [hsl, List.drop_length] at er
          simp only [roundJ] at er
          obtain ⟨dx6, m6, md6, h16, _⟩ := id tm6.ob
          obtain ⟨kvs6, dk6, pk6⟩ := id tm6.fnd
          have ext : PR.Ext KK K2 := by rw [← er]; exact ext_round _ _ _ _
          have hl6 := tok6.len ok
          have hle := ext.len
          refine s_set (v_gt (v_lenX (to_fld T h16 (val_var rfl) (by simp) (toF_found _ _ _ _)) dk6.rd) (val_var rfl)) ?_
          rw [MapM.len pk6]
          by_cases hgt : KK.length < K2.length
          · rw [decide_eq_true (by omega : (KK.length : Int) < (K2.length : Int))]
            refine ⟨_, ?_, true, K2, L2, n2, _, _, rfl, tm6, tok6, fun z => (by cases z), rfl⟩
            rw [hμ]
            simp
            omega
          · have heq : K2 = KK := ext.eq (by omega)
            subst heq
            rw [decide_eq_false (by omega : ¬ (K2.length : Int) < (K2.length : Int))]
            refine ⟨_, ?_, false, K2, L2, n2, _, _, rfl, tm6, tok6, fun _ => er, rfl⟩
            rw [hμ]
            simp
end
end PW
end

section
set_option Elab.async false
set_option maxRecDepth 100000
set_option maxHeartbeats 4000000
set_option linter.all false
/-! Walks: Heads. -/
namespace PW
open PySem L2 PX PR
section
variable {P : Program} {w : World} {K : PySem.W.Frag} {mg : Str → Option Value} {base : Heap} {c : Cs}
def hdF (md : Addr) : List (Str × V) := putF "moves" (.ref md) []
theorem hdF_moves (md : Addr) : (hdF md).lookup ("moves" : Str) = some (.ref md) := lk_hit
theorem hdF_no (md : Addr) {x : Str} (h1 : ¬ x = "moves") : (hdF md).lookup x = none := lk_miss h1 rfl
theorem hd_fld (T : Txt K mg c) {σ : L2.St} {H : Hp} {te : TE} {a dx md : Addr} (h : H a = some (.ins c.hd dx (hdF md))) (e : Val te σ H (.ref a)) : Val (tFld K te "moves") σ H (.ref md) := val_fld e h T.hd.cl (T.hd.no _ (by simp)) (hdF_moves _)
def spHdPut (P : Program) (w : World) (c : Cs) : Sp := fun vs H Q _ => ∃ (H0 : Hp) (a dx md : Addr) (sv mv : V) (st : Stp) (mo : Mov) (f : Hd → List Mov) (L : List Addr) (n : Nat), vs = [.ref a, sv, mv] ∧ Same H0 H ∧ H a = some (.ins c.hd dx (hdF md)) ∧ stepR c H0 st sv ∧ movR H mo mv ∧ MM movR P w H md f L n ∧
  (∀ b ∈ L, H0 b = none) ∧ n < 100000 ∧ (f (st.s, st.l)).length < 100000 ∧
  ∀ H' L', Same H0 H' → Lo H H' → Fr L H H' → MM movR P w H' md (fun k => if k = (st.s, st.l) then f k ++ [mo] else f k) L' (n + 1) → (∀ b ∈ L', b ∈ L ∨ H b = none) → Q .non H'
theorem sc_hdPut : FnScope ["self", "step", "move"] ["self", "step", "move"] (defScope sHdPut) := ⟨rfl, rfl, rfl, by decide +kernel, rfl, by decide +kernel, by decide +kernel⟩
theorem ok_hdPut (T : Txt K mg c) {f : Addr} {fd : FuncData} (F : Fun K "put" "Heads.put" sHdPut f fd) : FnOk P w K mg base CX0 1 f fd ["self", "step", "move"] (spHdPut P w c) := by
  refine F.ok sc_hdPut (fun vs H Q E h => ?_) (fun cdv A outer s H vs Q E hr h => ?_)
  · obtain ⟨H0, a, dx, md, sv, mv, st, mo, f, L, n, rfl, _⟩ := h
    rfl
  · obtain ⟨H0, a, dx, md, sv, mv, st, mo, f, L, n, rfl, s0, ha, ⟨sa, sd, tl, rfl, hsa, htl⟩, hmo, mm, fL, hn, hf, k⟩ := h
    have hu := hu_of hr
    refine ⟨_, (pss_one (ps_expr (pe_bm PySem.F.plainAttrs_list PySem.F.slot_list_append PySem.F.type_list_append mt_append (pe_xsetd Hd hu (pe_fld (pv 0) rfl) (pe_tup (pa_cons (pe_fld (pv 1) rfl) (pa_cons (pe_fld (pv 1) rfl) pa_nil))) (pe_lst pa_nil) ⟨rfl, rfl, rfl, rfl⟩) (pa_cons (pv 2) pa_nil)))), ?_⟩
    refine mmAdd (h := (st.s, st.l)) (b0 := mo) movR_m mm (hd_fld T ha (val_var rfl)) (new1_tup (va_cons (st_fld T (s0 _ _ hsa) (val_var rfl) (by simp) (stepF_state _ _)) (va_cons (st_fld T (s0 _ _ hsa) (val_var rfl) (by simp) (stepF_letter _ _)) va_nil))) hn hf (fun H2 Q2 lo2 fr2 q2 => val_var rfl _ (q2 _ H2 (Same.refl _) (movR_m.mono lo2.tp hmo))) fun H' lo fr ⟨L', mm', hL'⟩ => ?_
    exact k _ _ (fr.base s0 fL) lo fr mm' hL'
theorem movsF_snoc (mk : Int → Bool) (T : List Ent) (h : Hd) (st : Stp) : ∀ (l : List Stp) (k : Nat), movsF mk T h (l ++ [st]) k = movsF mk T h l k ++ (if (st.s, st.l) = h then movsOf mk T st (k + l.length) else [])
  | [], k => by simp [movsF]
  | a :: l, k => by
    rw [List.cons_append, movsF, movsF, movsF_snoc mk T h st l (k + 1), List.append_assoc, List.length_cons]
    rw [show k + 1 + l.length = k + (l.length + 1) by omega]
def spHdInit (P : Program) (w : World) (c : Cs) : Sp := fun vs H Q _ => ∃ (H0 : Hp) (M : Mach) (mk : Int → Bool) (T : List Ent) (p dx tb tdx md fd ld : Addr) (m tm : V) (L : List Addr) (n : Nat), vs = [.ref p, m, .ref tb] ∧ Same H0 H ∧ H0 p = none ∧ machR c H0 M m ∧ M.Ok ∧ H0 tb = some (.ins c.to tdx (toF tm md fd ld)) ∧ MarksAt mk H0 md ∧ MM entR P w H0 ld (atHd T) L n ∧ T.length ≤ 96 ∧
  H p = some (.ins c.hd dx []) ∧ ∀ H' hm L' n', Same H0 H' → H' p = some (.ins c.hd dx (hdF hm)) → MM movR P w H' hm (movs M mk T) L' n' → (∀ b ∈ L', H0 b = none) → Q .non H'
theorem sc_hdInit : FnScope ["self", "machine", "table", "index", "step", "marked", "entry"] ["self", "machine", "table"] (defScope sHdInit) := ⟨rfl, rfl, rfl, by decide +kernel, rfl, by decide +kernel, by decide +kernel⟩
theorem ok_hdInit (T : Txt K mg c) {f : Addr} {fd : FuncData} (F : Fun K "__init__" "Heads.__init__" sHdInit f fd) : FnOk P w K mg base CX0 2 f fd ["self", "machine", "table"] (spHdInit P w c) := by
  obtain ⟨f1, fd1, F1, b1, m1⟩ := T.hdPut
  obtain ⟨f2, fd2, F2, b2, m2⟩ := T.toEntries
  have G1 : FnOk P w K mg base CX0 1 f1 fd1 ["self", "step", "move"] (spHdPut P w c) := ok_hdPut T F1
  have G2 : FnOk P w K mg base CX0 1 f2 fd2 ["self", "state", "letter"] (spToEntries P w c) := ok_toEntries T F2
  refine F.ok sc_hdInit (fun vs H Q E h => ?_) (fun cdv A outer s H vs Q E hr h => ?_)
  · obtain ⟨H0, M, mk, TT, p, dx, tb, tdx, md, fd, ld, m, tm, L, n, rfl, _⟩ := h
    rfl
  · obtain ⟨H0, M, mk, TT, p, dx, tb, tdx, md, fd, ld, m, tm, Lt, nt, rfl, s0, p0, ⟨ma, mdx, mt, rfl, hma, sx, hsx, hsr⟩, ok, htb, hmk, mmt, hTl, hp, k⟩ := h
    have hu := hu_of hr
    refine ⟨_, (pss_cons (ps_fld (pv 0) (pe_xnew Hd) rfl)
      (pss_one (ps_for PassesOwn.never rfl (pi_enumT (by rfl) T.b (pa_cons (pe_fld (pv 1) rfl) pa_nil)) (pg_tup rfl (pgs_cons (pg_name (i := 3) sc_hdInit.nd rfl (by first | exact Or.inl rfl | exact Or.inr rfl)) (pgs_cons (pg_name (i := 4) sc_hdInit.nd rfl (by first | exact Or.inl rfl | exact Or.inr rfl)) pgs_nil)))
          (pss_cons (ps_set (i := 5) sc_hdInit.nd rfl (by first | exact Or.inl rfl | exact Or.inr rfl) (pe_cmp (pc_din hu (pv 3) (pe_fld (pv 2) rfl)) (by rfl)))
            (pss_cons (ps_if (pt_cmpR op_gt (pe_callB call_len_seq (by rfl) T.b PySem.boot_len (pa_cons (pe_fld (pv 4) rfl) pa_nil)) pe_int (nomark _))
                (pss_one (ps_expr (pe_meth (pv 0) T.hd.cl m1 G1 hr b1 .nil pass0 (pa_cons (pv 4) (pa_cons (pe_tup (pa_cons (pe_tup (pa_cons (pe_fld (pv 4) rfl) (pa_cons (pe_ix ix_tup (pe_fld (pv 4) rfl) pe_int (fun _ _ => rfl)) pa_nil))) (pa_cons (pv 5) (pa_cons (pv 3) (pa_cons pe_non pa_nil))))) pa_nil)))))
                pss_nil)
            (pss_one (ps_if (pt_cmpR op_eq (pe_callB call_len_seq (by rfl) T.b PySem.boot_len (pa_cons (pe_fld (pv 4) rfl) pa_nil)) pe_int (nomark _))
                (pss_one (ps_for PassesOwn.never rfl (pi_list (pe_meth (pv 2) T.to.cl m2 G2 hr b2 .nil pass0 (pa_cons (pe_fld (pv 4) rfl) (pa_cons (pe_ix ix_tup (pe_fld (pv 4) rfl) pe_int (fun _ _ => rfl)) pa_nil)))) (pg_name (i := 6) sc_hdInit.nd rfl (by first | exact Or.inl rfl | exact Or.inr rfl))
                    (pss_one (ps_expr (pe_meth (pv 0) T.hd.cl m1 G1 hr b1 .nil pass0 (pa_cons (pv 4) (pa_cons (pe_tup (pa_cons (pe_tup (pa_cons (pe_ix ix_tup (pv 6) pe_int (fun _ _ => rfl)) (pa_cons (pe_ix ix_tup (pe_fld (pv 4) rfl) pe_int (fun _ _ => rfl)) pa_nil))) (pa_cons (pe_or (pv 5) (pe_one (pe_ix ix_tup (pv 6) pe_int (fun _ _ => rfl)))) (pa_cons (pv 3) (pa_cons (pv 6) pa_nil))))) pa_nil)))))))
                pss_nil))))))), ?_⟩
    refine q_fldE (e_xnew fun hm H1 hhm e1 d1 => ?_)
    have nhp : hm ≠ p := fun z => by rw [z, hp] at hhm; cases hhm
    have hhm0 : H0 hm = none := s0.free hhm
    refine val_var rfl _ ⟨p, c.hd, dx, [], rfl, by rw [e1, upd_ne nhp.symm]; exact hp, T.hd.cl, T.hd.no _ (by simp), (by decide), ?_⟩
    have s1 : Same H0 (upd H1 p (.ins c.hd dx (hdF hm))) := by rw [e1]; exact sm_own (sm_own s0 hhm0) p0
    have p1 : (upd H1 p (.ins c.hd dx (hdF hm))) p = some (.ins c.hd dx (hdF hm)) := upd_same
    have mm1 : MM movR P w (upd H1 p (.ins c.hd dx (hdF hm))) hm (fun _ => []) [hm] 0 := by
      refine MM.new ?_
      obtain ⟨ys, q1, q2⟩ := d1
      cases q2
      exact ⟨[], by rw [upd_ne nhp]; exact q1, .nil⟩
    show tFor _ _ _ _ _ (upd H1 p (.ins c.hd dx (hdF hm)))
    generalize (upd H1 p (.ins c.hd dx (hdF hm))) = H2 at s1 p1 mm1
    refine s_enumT (xs := sx) (ma_fld T (s1 _ _ hma) (val_var rfl) (by simp) (machF_steps _ _)) (SqT.of (s1 _ _ hsx)) (fun i σ H' => Same H0 H' ∧ (∃ o3 o4 o5 o6, σ = [some (.ref p), some (.ref ma), some (.ref tb), o3, o4, o5, o6]) ∧ H' p = some (.ins c.hd dx (hdF hm)) ∧ ∃ L n, MM movR P w H' hm (fun h => movsF mk TT h (M.steps.take i) 0) L n ∧ (∀ b ∈ L, H0 b = none) ∧ n ≤ i * 97)
      ⟨s1, ⟨_, _, _, _, rfl⟩, p1, [hm], 0, mm1, fun b hb => by rw [List.mem_singleton.mp hb]; exact hhm0, Nat.zero_le _⟩ (fun i σ H' q => SqT.of (q.1 _ _ hsx)) ?_ ?_
    · rintro i x TP σ H3 hx ⟨s3, ⟨o3, o4, o5, o6, rfl⟩, p3, L, n, mm3, fL, hn⟩ hTP
      obtain ⟨st, hst, hstr⟩ := hsr.get' hx
      obtain ⟨sa, sd, tl, rfl, hsa, htl⟩ := id hstr
      have hi : i < 10 := Nat.lt_of_lt_of_le (List.getElem?_eq_some_iff.mp hst).1 ok.n10
      have hlaid : st.laid.length ≤ 2 := (ok.fit st (List.mem_of_getElem? hst)).2.2.2.2.2.2.1
      have hft : ∀ h, movsF mk TT h (M.steps.take (i + 1)) 0 = movsF mk TT h (M.steps.take i) 0 ++ (if (st.s, st.l) = h then movsOf mk TT st i else []) := fun h => by
        rw [take_succ' hst, movsF_snoc, List.length_take, Nat.zero_add, Nat.min_eq_left (Nat.le_of_lt (List.getElem?_eq_some_iff.mp hst).1)]
      have hfl : ∀ h, (movsF mk TT h (M.steps.take i) 0).length ≤ 970 := fun h => by
        refine Nat.le_trans (movsF_len h _ _) ?_
        rw [List.length_take]
        exact Nat.le_trans (Nat.mul_le_mul (Nat.le_trans (Nat.min_le_right _ _) ok.n10) (by omega : 1 + TT.length ≤ 97)) (by decide)
      have s4 : Same H3 (upd H3 TP (.tup [.int (i : Nat), .ref sa])) := sm_up hTP
      refine g_two upd_same ?_
      have p4 := s4 _ _ p3
      have mm4 := mm3.same movR_m s4
      have sm4 := s3.trans s4
      generalize upd H3 TP (.tup [.int (i : Nat), .ref sa]) = H4 at s4 p4 mm4 sm4
      clear s4
      have fl : ∀ {σ : L2.St} {H' : Hp} {fn : Str} {v : V}, Same H0 H' → σ[4]? = some (some (.ref sa)) → fn ∈ (["state", "letter", "goal", "laid", "weight"] : List Str) → (stepF st tl).lookup fn = some v → Val (tFld K (tVar 4) fn) σ H' v := fun sm e hm hl => st_fld T (sm _ _ hsa) (val_var e) hm hl
      refine q_set (v_in (val_var rfl) (to_fld T (sm4 _ _ htb) (val_var rfl) (by simp) (toF_marked _ _ _ _)) (hmk.mono (.same sm4))) ?_
      cases hl : st.laid with
      | nil =>
        have htl' : H0 tl = some (.tup []) := by rw [htl, hl]; rfl
        refine q_when (b := false) (a_test (v_gt (v_len (fl sm4 rfl (by simp) (stepF_laid _ _)) (.inr (SqT.of (sm4 _ _ htl')))) val_c)) (fun z => by cases z) (fun _ => ?_)
        refine s_if (b := false) (a_test (v_eq (v_len (fl sm4 rfl (by simp) (stepF_laid _ _)) (.inr (SqT.of (sm4 _ _ htl')))) val_c rfl)) (fun z => by cases z) (fun _ => ?_)
        refine ⟨sm4, ⟨_, _, _, _, rfl⟩, p4, L, n, mm4.congr fun h => ?_, fL, by omega⟩
        rw [hft]
        have : movsOf mk TT st i = [] := by unfold movsOf; rw [hl]
        rw [this]; simp
      | cons l0 lr =>
        have htl' : H0 tl = some (.tup (V.int l0 :: lr.map V.int)) := by rw [htl, hl]; rfl
        have vl : ∀ {σ : L2.St} {H' : Hp}, Same H0 H' → σ[4]? = some (some (.ref sa)) → Val (tOp (rIxT K) (tFld K (tVar 4) "laid") (tC (.int 0))) σ H' (.int l0) := fun sm e =>
          v_ixT (fl sm e (by simp) (stepF_laid _ _)) val_c (sm _ _ htl') (atI_nat (j := 0) rfl)
        refine q_when (b := decide ((0 : Int) < ((V.int l0 :: lr.map V.int).length : Nat))) (a_test (v_gt (v_len (fl sm4 rfl (by simp) (stepF_laid _ _)) (.inr (SqT.of (sm4 _ _ htl')))) val_c)) (fun _ => ?_) (fun z => by simp at z)
        -- the plain move
        refine s_drop (e_methE (val_var rfl) p4 (hdF_no _ (by decide +kernel)) (v_cons (val_var rfl) (tcons_E (t_tupE (tcons_E (t_tup (va_cons (fl sm4 rfl (by simp) (stepF_goal _ _)) (va_cons (vl sm4 rfl) va_nil)) fun q1 hq1 => ?_))))))
        refine v_cons (val_var rfl) (v_cons (val_var rfl) (v_cons val_c ⟨by show 4 ≤ sizeLine; decide, fun q2 hq2 => ?_⟩))
        have s5 : Same H4 (upd (upd H4 q1 (.tup [.int st.g, .int l0])) q2 (.tup [.ref q1, .bl (mk i), .int (i : Nat), .non])) := sm_new (sm_up hq1) hq2
        have mo5 : movR (upd (upd H4 q1 (.tup [.int st.g, .int l0])) q2 (.tup [.ref q1, .bl (mk i), .int (i : Nat), .non])) ⟨(st.g, l0), mk i, i, none⟩ (.ref q2) := ⟨q2, .ref q1, .non, rfl, upd_same, ⟨q1, rfl, sm_up hq2 _ _ upd_same⟩, rfl⟩
        have p5 := s5 _ _ p4
        have mm5 := mm4.same movR_m s5
        have sm5 := sm4.trans s5
        refine v_nil ?_
        generalize (upd (upd H4 q1 (.tup [.int st.g, .int l0])) q2 (.tup [.ref q1, .bl (mk i), .int (i : Nat), .non])) = H5 at s5 mo5 p5 mm5 sm5
        refine ⟨H0, p, dx, hm, .ref sa, .ref q2, st, _, _, L, n, rfl, sm5, p5, hstr, mo5, mm5, fL, by omega, Nat.lt_of_le_of_lt (hfl _) (by decide), fun H6 L6 sm6 lo6 fr6 mm6 hL6 => ?_⟩
        have p6 := lo6.ins p5
        have fL6 : ∀ b ∈ L6, H0 b = none := fun b hb => (hL6 b hb).elim (fL b) fun z => sm5.free z
        refine s_ifE (a_test (v_eq (v_len (fl sm6 rfl (by simp) (stepF_laid _ _)) (.inr (SqT.of (sm6 _ _ htl')))) val_c rfl) _ ?_)
        by_cases h2 : lr.length = 1
        · obtain ⟨l1, rfl⟩ := List.length_eq_one_iff.mp h2
          refine iteT ?_
          -- table.entries
          have mmt6 := mmt.same keyR_m sm6
          refine s_listE (e_methE (val_var rfl) (sm6 _ _ htb) (toF_no _ _ _ _ (by decide +kernel) (by decide +kernel) (by decide +kernel) (by decide +kernel)) (v_cons (fl sm6 rfl (by simp) (stepF_goal _ _)) (v_cons (vl sm6 rfl) (v_nil ⟨tb, tdx, md, fd, ld, tm, Lt, nt, _, st.g, l0, rfl, sm6 _ _ htb, mmt6, fun q zs H7 s7 hq7 hqo hzs => ?_⟩))))
          have hqL : q ∉ L6 := fun z => by
            rcases hqo with y | y
            · have := fL6 q z
              rcases mmt.kind q y with ⟨φ, e⟩ | ⟨xs, e⟩ <;> (rw [this] at e; cases e)
            · exact mm6.live y z
          have emv : movsOf mk TT st i = ⟨(st.g, l0), mk i, i, none⟩ :: (atHd TT (st.g, l0)).map fun e => (⟨(e.g, l1), mk i || e.f, i, some e⟩ : Mov) := by unfold movsOf; rw [hl]; rfl
          refine ⟨q, rfl, ⟨zs, SqL.of hq7⟩, lpL (xs := zs) (fun j σ H' => Same H0 H' ∧ Tp H7 H' ∧ (∃ o6, σ = [some (.ref p), some (.ref ma), some (.ref tb), some (.int (i : Nat)), some (.ref sa), some (.bl (mk i)), o6]) ∧ H' p = some (.ins c.hd dx (hdF hm)) ∧ H' q = some (.lst zs) ∧
              ∃ L n2, MM movR P w H' hm (fun h => movsF mk TT h (M.steps.take i) 0 ++ (if (st.s, st.l) = h then ⟨(st.g, l0), mk i, i, none⟩ :: ((atHd TT (st.g, l0)).map fun e => (⟨(e.g, l1), mk i || e.f, i, some e⟩ : Mov)).take j else [])) L n2 ∧ (∀ b ∈ L, H0 b = none) ∧ q ∉ L ∧ n2 = n + 1 + j)
            ⟨sm6.trans s7, Tp.refl _, ⟨_, rfl⟩, s7 _ _ p6, hq7, L6, n + 1, (mm6.same movR_m s7).congr fun h => ?_, fL6, hqL, rfl⟩ (fun j σ H' r => SqL.of r.2.2.2.2.1) ?_ ?_⟩
          · by_cases e : h = (st.s, st.l)
            · rw [if_pos e, if_pos e.symm]; rfl
            · rw [if_neg e, if_neg (fun z => e z.symm)]; simp
          · rintro j x σ H8 hx8 ⟨sm8, t8, ⟨o6', rfl⟩, p8, q8, L8, n8, mm8, fL8, hqL8, hn8⟩
            obtain ⟨e, he, ea, rfl, hea⟩ := hzs.get' hx8
            have hj : j < 96 := Nat.lt_of_lt_of_le (List.getElem?_eq_some_iff.mp he).1 (Nat.le_trans (atHd_len _ _) hTl)
            have hea8 := t8 _ _ hea
            refine g_name ?_
            refine s_drop (e_methE (val_var rfl) p8 (hdF_no _ (by decide +kernel)) (v_cons (val_var rfl) (tcons_E (t_tupE (tcons_E (t_tup (va_cons (v_ixT (val_var rfl) val_c hea8 (atI_nat (j := 2) rfl)) (va_cons (v_ixT (fl sm8 rfl (by simp) (stepF_laid _ _)) val_c (sm8 _ _ htl') (atI_nat (j := 1) rfl)) va_nil)) fun b1 hb1 => ?_))))))
            have hea9 := sm_up (o := .tup [.int e.g, .int l1]) hb1 _ _ hea8
            refine v_cons (v_or (val_var rfl) fun _ => v_ixT (val_var rfl) val_c hea9 (atI_nat (j := 3) rfl)) (v_cons (val_var rfl) (v_cons (val_var rfl) ⟨by show 4 ≤ sizeLine; decide, fun b2 hb2 => ?_⟩))
            have s9 : Same H8 (upd (upd H8 b1 (.tup [.int e.g, .int l1])) b2 (.tup [.ref b1, .bl (mk i || e.f), .int (i : Nat), .ref ea])) := sm_new (sm_up hb1) hb2
            have mo9 : movR (upd (upd H8 b1 (.tup [.int e.g, .int l1])) b2 (.tup [.ref b1, .bl (mk i || e.f), .int (i : Nat), .ref ea])) ⟨(e.g, l1), mk i || e.f, i, some e⟩ (.ref b2) := ⟨b2, .ref b1, .ref ea, rfl, upd_same, ⟨b1, rfl, sm_up hb2 _ _ upd_same⟩, ⟨ea, rfl, s9 _ _ hea8⟩⟩
            refine v_nil ?_
            generalize (upd (upd H8 b1 (.tup [.int e.g, .int l1])) b2 (.tup [.ref b1, .bl (mk i || e.f), .int (i : Nat), .ref ea])) = H9 at s9 mo9
            have hfn : ((fun h => movsF mk TT h (M.steps.take i) 0 ++ (if (st.s, st.l) = h then (⟨(st.g, l0), mk i, i, none⟩ : Mov) :: ((atHd TT (st.g, l0)).map fun e => (⟨(e.g, l1), mk i || e.f, i, some e⟩ : Mov)).take j else [])) (st.s, st.l)).length < 100000 := by
              simp only [if_pos, List.length_append, List.length_cons, List.length_take]
              have := hfl (st.s, st.l)
              omega
            refine ⟨H0, p, dx, hm, .ref sa, .ref b2, st, _, _, L8, n8, rfl, sm8.trans s9, s9 _ _ p8, hstr, mo9, mm8.same movR_m s9, fL8, by omega, hfn, fun H10 L10 sm10 lo10 fr10 mm10 hL10 => ?_⟩
            have q9 := s9 _ _ q8
            refine ⟨sm10, (t8.trans (.same s9)).trans lo10.tp, ⟨_, rfl⟩, lo10.ins (s9 _ _ p8), fr10 _ _ q9 hqL8, L10, n8 + 1, mm10.congr fun h => ?_, fun b hb => (hL10 b hb).elim (fL8 b) fun z => (sm8.trans s9).free z, fun z => (hL10 q z).elim hqL8 (fun y => nomatch q9.symm.trans y), by omega⟩
            by_cases eh : h = (st.s, st.l)
            · rw [if_pos eh, if_pos eh.symm, if_pos eh.symm, take_succ' (b := (⟨(e.g, l1), mk i || e.f, i, some e⟩ : Mov)) (by rw [List.getElem?_map, he]; rfl)]
              simp
            · rw [if_neg eh, if_neg (fun z => eh z.symm), if_neg (fun z => eh z.symm)]
          · rintro σ H8 ⟨sm8, t8, ⟨o6', rfl⟩, p8, q8, L8, n8, mm8, fL8, hqL8, hn8⟩
            refine ⟨sm8, ⟨_, _, _, _, rfl⟩, p8, L8, n8, mm8.congr fun h => ?_, fL8, ?_⟩
            · rw [hft, emv]
              have e1 : zs.length = ((atHd TT (st.g, l0)).map fun e => (⟨(e.g, l1), mk i || e.f, i, some e⟩ : Mov)).length := by rw [List.length_map, hzs.len]
              rw [e1, List.take_length]
            · have : zs.length ≤ 96 := by rw [← hzs.len]; exact Nat.le_trans (atHd_len _ _) hTl
              omega
        · have hne : decide (V.int ((V.int l0 :: lr.map V.int).length : Nat) = V.int 2) = false := by
            rw [dec_V]
            refine decide_eq_false fun z => h2 ?_
            simp at z
            omega
          rw [hne]
          refine iteF ⟨sm6, ⟨_, _, _, _, rfl⟩, p6, L6, n + 1, mm6.congr fun h => ?_, fL6, by omega⟩
          have hnil : lr = [] := by
            rw [hl] at hlaid
            cases lr with
            | nil => rfl
            | cons x r => simp at hlaid h2; exact absurd hlaid h2
          subst hnil
          have emv : movsOf mk TT st i = [⟨(st.g, l0), mk i, i, none⟩] := by unfold movsOf; rw [hl]
          rw [hft, emv]
          by_cases e : h = (st.s, st.l)
          · rw [if_pos e, if_pos e.symm]
          · rw [if_neg e, if_neg (fun z => e z.symm)]; simp
    · rintro σ H3 ⟨s3, _, p3, L, n, mm3, fL, hn⟩
      rw [← hsr.len, List.take_length] at mm3
      exact k _ hm L n s3 p3 mm3 fL
def spHdMoves (P : Program) (w : World) (c : Cs) : Sp := fun vs H Q _ => ∃ (a dx md : Addr) (hv : V) (h : Hd) (f : Hd → List Mov) (L : List Addr) (n : Nat), vs = [.ref a, hv] ∧ H a = some (.ins c.hd dx (hdF md)) ∧ hdR H h hv ∧ MM movR P w H md f L n ∧
  ∀ q ys H1, Same H H1 → H1 q = some (.lst ys) → (q ∈ L ∨ H q = none) → All movR H1 (f h) ys → Q (.ref q) H1
theorem sc_hdMoves : FnScope ["self", "head"] ["self", "head"] (defScope sHdMoves) := ⟨rfl, rfl, rfl, by decide +kernel, rfl, by decide +kernel, by decide +kernel⟩
theorem ok_hdMoves (T : Txt K mg c) {f : Addr} {fd : FuncData} (F : Fun K "moves_from" "Heads.moves_from" sHdMoves f fd) : FnOk P w K mg base CX0 1 f fd ["self", "head"] (spHdMoves P w c) := by
  refine F.ok sc_hdMoves (fun vs H Q E h => ?_) (fun cdv A outer s H vs Q E hr h => ?_)
  · obtain ⟨a, dx, md, hv, h, f, L, n, rfl, _⟩ := h
    rfl
  · obtain ⟨a, dx, md, hv, h, f, L, n, rfl, ha, ⟨hb, rfl, hhb⟩, mm, k⟩ := h
    have hu := hu_of hr
    refine ⟨_, (pss_one (ps_ret (pe_xget2 Hd hu (pe_fld (pv 0) rfl) (pv 1) (pe_lst pa_nil) ⟨rfl, rfl, rfl, rfl⟩))), ?_⟩
    exact s_retE (e_mmGet (h := h) movR_m mm (hd_fld T ha (val_var rfl)) (new1_val (val_var rfl) hhb) k)
end
end PW
end

section
set_option Elab.async false
set_option maxRecDepth 100000
set_option maxHeartbeats 4000000
set_option linter.all false
/-! Walks: Heads.reached. -/
namespace PW
open PySem L2 PX PR
section
variable {P : Program} {w : World} {K : PySem.W.Frag} {mg : Str → Option Value} {base : Heap} {c : Cs}
theorem e_pop {σ : L2.St} {H : Hp} {to : TE} {l : Addr} {ys : List V} {y : V} {Q : VK} (ho : Val to σ H (.ref l)) (hl : H l = some (.lst (ys ++ [y]))) (q : Q y (upd H l (.lst ys))) : tBM0 K "list" rPop to σ H Q := ho _ ⟨.inl ⟨rfl, _, SqL.of hl⟩, by
  refine ⟨l, ys ++ [y], y, rfl, rfl, hl, by simp, ?_⟩
  rw [List.dropLast_concat]
  exact q⟩
theorem pair_in {κ α : Type} [DecidableEq κ] {R : Rp α} {H : Hp} {KK : List (κ × α)} {kvs : List (κ × V)} (h : Paired (fun (x : κ × α) (p : κ × V) => p.1 = x.1 ∧ R H x.2 p.2) KK kvs) {k : κ} (hk : k ∈ KK.map (·.1)) : (valV kvs k).isSome = true := by
  have e : kvs.map (·.1) = KK.map (·.1) := by
    clear hk
    induction h with
    | nil => rfl
    | cons h t ih => rw [List.map_cons, List.map_cons, h.1, ih]
  rw [← e] at hk
  obtain ⟨p, hp, q⟩ := List.mem_map.mp hk
  unfold valV
  rw [Option.isSome_map, List.find?_isSome]
  exact ⟨p, hp, by simpa using q⟩
theorem pair_out {κ α : Type} [DecidableEq κ] {R : Rp α} {H : Hp} {KK : List (κ × α)} {kvs : List (κ × V)} (h : Paired (fun (x : κ × α) (p : κ × V) => p.1 = x.1 ∧ R H x.2 p.2) KK kvs) {k : κ} (hk : k ∉ KK.map (·.1)) : (valV kvs k).isSome = false := by
  have e : kvs.map (·.1) = KK.map (·.1) := by
    clear hk
    induction h with
    | nil => rfl
    | cons h t ih => rw [List.map_cons, List.map_cons, h.1, ih]
  rw [← e] at hk
  refine Bool.eq_false_iff.mpr fun z => hk ?_
  unfold valV at z
  rw [Option.isSome_map, List.find?_isSome] at z
  obtain ⟨p, hp, q⟩ := z
  exact List.mem_map.mpr ⟨p, hp, by simpa using q⟩
def pdR : Rp (Option (Hd × Mov)) := optR (prR hdR movR)
theorem pdR_m : MonoT pdR := optR_m (prR_m keyR_m movR_m)
theorem All.unsnoc {α : Type} {R : Rp α} {H : Hp} : ∀ {as : List α} {a : α} {xs : List V}, All R H (as ++ [a]) xs → ∃ ys y, xs = ys ++ [y] ∧ All R H as ys ∧ R H a y
  | [], a, xs, h => by
    cases h with
    | cons h t => cases t; exact ⟨[], _, rfl, .nil, h⟩
  | b :: as, a, xs, h => by
    cases h with
    | cons h t =>
      obtain ⟨ys, y, rfl, h1, h2⟩ := All.unsnoc t
      exact ⟨_ :: ys, y, rfl, .cons h h1, h2⟩
theorem put_non (xs : List Hd) (h : Hd) : putK (xs.map fun h => (h, V.non)) h V.non = (ins xs h).map fun h => (h, V.non) := by
  unfold putK ins
  by_cases hin : h ∈ xs
  · have : ((xs.map fun h => (h, V.non)).any fun kv => decide (kv.1 = h)) = true := List.any_eq_true.mpr ⟨(h, V.non), List.mem_map.mpr ⟨h, hin, rfl⟩, by simp⟩
    rw [if_pos this, if_pos hin, List.map_map]
    refine List.map_congr_left fun p _ => ?_
    simp only [Function.comp]
    split <;> rfl
  · have : ¬ ((xs.map fun h => (h, V.non)).any fun kv => decide (kv.1 = h)) = true := fun z => by
      obtain ⟨p, hp, e⟩ := List.any_eq_true.mp z
      obtain ⟨x, hx, rfl⟩ := List.mem_map.mp hp
      have : x = h := by simpa using e
      exact hin (this ▸ hx)
    rw [if_neg this, if_neg hin, List.map_append]
    rfl
theorem map_non {H : Hp} (xs : List Hd) : Paired (fun (x : Hd × Option (Hd × Mov)) (p : Hd × V) => p.1 = x.1 ∧ pdR H x.2 p.2) (xs.map fun h => (h, none)) (xs.map fun h => (h, V.non)) := by
  induction xs with
  | nil => exact .nil
  | cons x xs ih => exact .cons ⟨rfl, rfl⟩ ih
theorem keysAt_all {H : Hp} {kvs : List (Hd × V)} {bs : List Addr} (h : KeysAt H kvs bs) : All hdR H (kvs.map (·.1)) (bs.map V.ref) := by
  unfold KeysAt at h
  induction h with
  | nil => exact .nil
  | cons h t ih => exact .cons ⟨_, rfl, h⟩ ih
def spReached (P : Program) (w : World) (c : Cs) : Sp := fun vs H Q _ => ∃ (M : Mach) (mk : Int → Bool) (T : List Ent) (a dx md : Addr) (lv : V) (S : List Hd) (L : List Addr) (n : Nat), vs = [.ref a, lv] ∧ M.Ok ∧ (∀ e ∈ T, EntIn M e) ∧ H a = some (.ins c.hd dx (hdF md)) ∧ MM movR P w H md (movs M mk T) L n ∧ lstR hdR H S lv ∧ S.length ≤ 1000 ∧ (∀ h ∈ S, isHeadJ M h.1 h.2 = true) ∧
  ∀ d F H', Same H H' → H d = none → MapM pdR P w H' d F → ReachOk M mk T S F → Q (.ref d) H'
theorem sc_reached : FnScope ["self", "heads", "found", "head", "pending", "move"] ["self", "heads"] (defScope sHdReached) := ⟨rfl, rfl, rfl, by decide +kernel, rfl, by decide +kernel, by decide +kernel⟩
theorem ok_reached (T : Txt K mg c) {f : Addr} {fd : FuncData} (F : Fun K "reached" "Heads.reached" sHdReached f fd) : FnOk P w K mg base CX0 2 f fd ["self", "heads"] (spReached P w c) := by
  obtain ⟨f1, fd1, F1, b1, m1⟩ := T.hdMoves
  have G1 : FnOk P w K mg base CX0 1 f1 fd1 ["self", "head"] (spHdMoves P w c) := ok_hdMoves T F1
  refine F.ok sc_reached (fun vs H Q E h => ?_) (fun cdv A outer s H vs Q E hr h => ?_)
  · obtain ⟨M, mk, TT, a, dx, md, lv, S, L, n, rfl, _⟩ := h
    rfl
  · obtain ⟨M, mk, TT, a, dx, md, lv, S, L, n, rfl, ok, hT, ha, mm, ⟨la, xs, rfl, hla, hxs⟩, hSl, hS, k⟩ := h
    have hu := hu_of hr
    refine ⟨_, (pss_cons (ps_set (i := 2) sc_reached.nd rfl (by first | exact Or.inl rfl | exact Or.inr rfl) (pe_xnew Hd))
      (pss_cons (ps_for PassesOwn.never rfl (pi_list (pv 1)) (pg_name (i := 3) sc_reached.nd rfl (by first | exact Or.inl rfl | exact Or.inr rfl))
          (pss_one (ps_xput Hd hu (pv 2) (pv 3) pe_non rfl)))
      (pss_cons (ps_set (i := 4) sc_reached.nd rfl (by first | exact Or.inl rfl | exact Or.inr rfl) (pe_callTy (call_listX Hd rfl) (by rfl) T.b (by decide +kernel) (pa_cons (pv 2) pa_nil)))
      (pss_cons (ps_while PassesOwn.never (pt_cmpR op_gt (pe_callB call_len_seq (by rfl) T.b PySem.boot_len (pa_cons (pv 4) pa_nil)) pe_int (nomark _))
          (pss_cons (ps_set (i := 3) sc_reached.nd rfl (by first | exact Or.inl rfl | exact Or.inr rfl) (pe_bm0 PySem.F.plainAttrs_list PySem.F.slot_list_pop PySem.F.type_list_pop mt_pop (pv 4)))
            (pss_one (ps_for PassesOwn.never rfl (pi_list (pe_meth (pv 0) T.hd.cl m1 G1 hr b1 .nil pass0 (pa_cons (pv 3) pa_nil))) (pg_name (i := 5) sc_reached.nd rfl (by first | exact Or.inl rfl | exact Or.inr rfl))
                (pss_one (ps_if (pt_cmp (pc_xnotin Hd hu (pe_ix ix_tup (pv 5) pe_int (fun _ _ => rfl)) (pv 2)) (by rfl))
                    (pss_cons (ps_xput Hd hu (pv 2) (pe_ix ix_tup (pv 5) pe_int (fun _ _ => rfl)) (pe_tup (pa_cons (pv 3) (pa_cons (pv 5) pa_nil))) rfl)
                      (pss_one (ps_expr (pe_bm PySem.F.plainAttrs_list PySem.F.slot_list_append PySem.F.type_list_append mt_append (pv 4) (pa_cons (pe_ix ix_tup (pv 5) pe_int (fun _ _ => rfl)) pa_nil)))))
                    pss_nil))))))
      (pss_one (ps_ret (pv 2))))))), ?_⟩
    refine q_asg (e_xnew fun d H1 hd e1 d1 => ?_)
    have s1 : Same H H1 := by rw [e1]; exact sm_up hd
    refine q_list (xs := xs) (val_var rfl) (SqL.of (s1 _ _ hla)) (fun i σ H' => Same H H' ∧ (∃ o3 o4 o5, σ = [some (.ref a), some (.ref la), some (.ref d), o3, o4, o5]) ∧ DXm P w H' d (((S.take i).foldl ins []).map fun h => (h, V.non)))
      ⟨s1, ⟨_, _, _, rfl⟩, d1⟩ (fun i σ H' q => SqL.of (q.1 _ _ hla)) ?_ ?_
    · rintro i x σ H2 hx ⟨s2, ⟨o3, o4, o5, rfl⟩, d2⟩
      obtain ⟨h, hh, hb, rfl, hhb⟩ := hxs.get' hx
      refine g_name ?_
      refine s_xput (k := h) val_c (val_var rfl) (new1_val (val_var rfl) (s2 _ _ hhb)) d2 ?_ fun H3 H4 s3 h4 => ?_
      · rw [List.length_map]
        refine Nat.lt_of_le_of_lt (nodup_le (foldl_ins_nodup List.nodup_nil) (m := S) fun x hx => ?_) (by omega)
        rw [mem_foldl_ins] at hx
        exact hx.elim (fun z => by cases z) fun z => List.mem_of_mem_take z
      · obtain ⟨dm4, fr4, lo4⟩ := DXm.put h4 (d2.same s3)
        refine ⟨fr4.base (s2.trans s3) fun b z => by rw [List.mem_singleton.mp z]; exact hd, ⟨_, _, _, rfl⟩, ?_⟩
        rw [put_non] at dm4
        rw [take_succ' hh, List.foldl_append]
        exact dm4
    · rintro σ H2 ⟨s2, ⟨o3, o4, o5, rfl⟩, d2⟩
      rw [← hxs.len, List.take_length] at d2
      refine q_asg (val_var rfl _ ⟨d, _, rfl, d2.rd, fun pl bs hpl hbs => ?_⟩)
      have hpl0 : H pl = none := s2.free hpl
      have npd : pl ≠ d := fun z => by
        obtain ⟨φ, q⟩ := d2.ext
        rw [z, q] at hpl; cases hpl
      have all0 := keysAt_all hbs
      rw [List.map_map, show ((fun x : Hd × V => x.1) ∘ fun h => (h, V.non)) = id from rfl, List.map_id] at all0
      have s3 : Same H2 (upd H2 pl (.lst (bs.map V.ref))) := sm_up hpl
      have rp0 : ReachP M mk TT S ((S.foldl ins []).map fun h => (h, none)) (S.foldl ins []) := .init hS
      refine q_whileE (fun μ σ H' => Same H H' ∧ ∃ (F : List FD) (pend : List Hd) (ys : List V) (o3 o5 : Option V), σ = [some (.ref a), some (.ref la), some (.ref d), o3, some (.ref pl), o5] ∧ H' pl = some (.lst ys) ∧ All hdR H' pend ys ∧ MapM pdR P w H' d F ∧ ReachP M mk TT S F pend ∧ μ = pend.length + (12 - F.length) ∧ μ ≤ 12)
        ⟨_, s2.trans s3, _, _, _, _, _, rfl, upd_same, all0.mono keyR_m (.same s3), ⟨_, d2.same s3, map_non _⟩, rp0, rfl, by have := rp0.p.len ok; rw [List.length_map] at this ⊢; omega⟩ ?_
      rintro μ σ H4 ⟨s4, F, pend, ys, o3', o5', rfl, hpl4, hall, map4, rp, hμ, hμ2⟩
      refine a_test (v_gt (v_len (val_var rfl) (.inl (SqL.of hpl4))) val_c) _ ?_
      rcases List.eq_nil_or_concat pend with rfl | ⟨pend', h, hpe⟩
      · cases hall
        exact iteF (s_ret (val_var rfl) (k _ _ _ s4 hd map4 rp.ok))
      · rw [List.concat_eq_append] at hpe
        subst hpe
        obtain ⟨ys', y, rfl, hall', hb, rfl, hhb⟩ := All.unsnoc hall
        have hlen : decide ((0 : Int) < ((ys' ++ [V.ref hb]).length : Nat)) = true := decide_eq_true (by rw [List.length_append, List.length_singleton]; omega)
        rw [hlen]
        refine iteT ⟨_, fun _ _ h => h, ?_⟩
        -- head = pending.pop()
        refine q_asg (e_pop (val_var rfl) hpl4 ?_)
        have s5 : Same H (upd H4 pl (.lst ys')) := sm_own s4 hpl0
        have tp5 : Tp H4 (upd H4 pl (.lst ys')) := .lst hpl4
        have hhb5 := tp5 _ _ hhb
        have mm5 := mm.same movR_m s5
        refine s_listE (e_meth (val_var rfl) (s5 _ _ ha) (hdF_no _ (by decide +kernel)) (va_cons (val_var rfl) va_nil) ⟨a, dx, md, .ref hb, h, _, L, n, rfl, s5 _ _ ha, ⟨hb, rfl, hhb5⟩, mm5, fun q zs H6 s6 hq6 hqo hzs => ?_⟩)
        have hpl5 : (upd H4 pl (.lst ys')) pl = some (.lst ys') := upd_same
        have nqp : q ≠ pl := fun z => by
          rcases hqo with y | y
          · exact mm.live hpl0 (by rw [← z]; exact y)
          · rw [z, hpl5] at y; cases y
        have map5 : MapM pdR P w (upd H4 pl (.lst ys')) d F := map4.stay pdR_m (upd_ne npd.symm) tp5
        have nqd : q ≠ d := fun z => by
          obtain ⟨φ, e⟩ := (map5.same pdR_m s6).ext
          rw [← z, hq6] at e; cases e
        have lF : F.length ≤ 12 := rp.p.len ok
        refine ⟨q, rfl, ⟨zs, SqL.of hq6⟩, lpL (xs := zs) (fun j σ H' => Same H H' ∧ Tp H6 H' ∧ (∃ o5, σ = [some (.ref a), some (.ref la), some (.ref d), some (.ref hb), some (.ref pl), o5]) ∧ H' q = some (.lst zs) ∧ ∃ (F : List FD) (pend : List Hd) (ys : List V), H' pl = some (.lst ys) ∧ All hdR H' pend ys ∧ MapM pdR P w H' d F ∧ ReachI M mk TT S F pend h ((movs M mk TT h).take j) ∧ pend.length + (12 - F.length) + 1 = μ)
          ⟨s5.trans s6, Tp.refl _, ⟨_, rfl⟩, hq6, F, pend', ys', s6 _ _ hpl5, hall'.mono keyR_m (tp5.trans (.same s6)), map5.same pdR_m s6, rp.pop, by rw [hμ, List.length_append, List.length_singleton]; omega⟩ (fun j σ H' r => SqL.of r.2.2.2.1) ?_ ?_⟩
        · rintro j x σ H7 hx7 ⟨s7, t7, ⟨o5'', rfl⟩, hq7, F7, pend7, ys7, hpl7, hall7, map7, ri7, hμ7⟩
          obtain ⟨mv, hmv, xa, x0, x1, rfl, hxa, ⟨eh, rfl, heh⟩, hpv⟩ := hzs.get' hx7
          have hmem := List.mem_of_getElem? hmv
          have hbox := mov_box ok hT hmem
          refine g_name ?_
          obtain ⟨kvs7, dk7, pk7⟩ := id map7
          refine s_ifE (a_testE (e_xnin (k := mv.e) (new1_val (v_ixT (val_var rfl) val_c (t7 _ _ hxa) (atI_nat (j := 0) rfl)) (t7 _ _ heh)) (fun H8 s8 => val_var rfl) dk7.rd fun H8 s8 => ⟨_, rfl, ?_⟩))
          have s78 := s7.trans s8
          by_cases hin : mv.e ∈ keysD F7
          · rw [pair_in pk7 hin]
            refine iteF ⟨s78, t7.trans (.same s8), ⟨_, rfl⟩, s8 _ _ hq7, F7, pend7, ys7, s8 _ _ hpl7, hall7.mono keyR_m (.same s8), map7.same pdR_m s8, ?_, hμ7⟩
            rw [take_succ' hmv]
            exact ri7.old hin
          · rw [pair_out pk7 hin]
            refine iteT ?_
            have hxa8 := s8 _ _ (t7 _ _ hxa)
            have heh8 := s8 _ _ (t7 _ _ heh)
            have lF7 : F7.length ≤ 12 := ri7.p.len ok
            refine q_xputN (k := mv.e) (new1_tup (va_cons (val_var rfl) (va_cons (val_var rfl) va_nil))) (fun H9 s9 => val_var rfl) (fun H9 s9 => new1_val (v_ixT (val_var rfl) val_c (s9 _ _ hxa8) (atI_nat (j := 0) rfl)) (s9 _ _ heh8)) (dk7.same s8) (by rw [MapM.len pk7]; omega) fun vb H9 H10 s9 hvb h10 => ?_
            obtain ⟨dm10, fr10, lo10⟩ := DXm.put h10 (dk7.same (s8.trans s9))
            have s89 := s8.trans s9
            have rv : pdR H9 (some (h, mv)) (.ref vb) := ⟨vb, .ref hb, .ref xa, rfl, hvb, ⟨hb, rfl, s89.trans (Same.refl _) _ _ (t7 _ _ (s6 _ _ hhb5))⟩, movR_m.mono (t7.trans (.same s89)) ⟨xa, .ref eh, x1, rfl, hxa, ⟨eh, rfl, heh⟩, hpv⟩⟩
            have map10 : MapM pdR P w H10 d (F7 ++ [(mv.e, some (h, mv))]) := MapM.add pdR_m (map7.same pdR_m s89) hin rv (Paired.mapP pk7 fun _ _ z => ⟨z.1, pdR_m.mono (.same s89) z.2⟩) (dk7.same s89) h10
            have hpl10 : H10 pl = some (.lst ys7) := fr10 _ _ (s89 _ _ hpl7) fun z => npd (List.mem_singleton.mp z)
            have hq10 : H10 q = some (.lst zs) := fr10 _ _ (s89 _ _ hq7) fun z => nqd (List.mem_singleton.mp z)
            have sm10 : Same H H10 := fr10.base (s7.trans s89) fun b z => by rw [List.mem_singleton.mp z]; exact hd
            have tp10 : Tp H7 H10 := (Tp.same s89).trans lo10.tp
            have rin := ri7.new hmem hin hbox
            have lF10 := rin.p.len ok
            rw [List.length_append, List.length_singleton] at lF10
            have lp : ys7.length ≤ 100 := by
              rw [← hall7.len]; omega
            refine s_append (val_var rfl) hpl10 (v_ixT (val_var rfl) val_c (lo10.tup (s9 _ _ hxa8)) (atI_nat (j := 0) rfl) _ ⟨ys7, hpl10, big6 (by omega), ?_⟩)
            have tpl : Tp H10 (upd H10 pl (.lst (ys7 ++ [.ref eh]))) := .lst hpl10
            refine ⟨sm_own sm10 hpl0, (t7.trans tp10).trans tpl, ⟨_, rfl⟩, by rw [upd_ne nqp]; exact hq10, F7 ++ [(mv.e, some (h, mv))], pend7 ++ [mv.e], _, upd_same, ?_, map10.stay pdR_m (upd_ne npd.symm) tpl, ?_, ?_⟩
            · exact (hall7.mono keyR_m (tp10.trans tpl)).snoc ⟨eh, rfl, tpl _ _ (lo10.tup (s9 _ _ heh8))⟩
            · rw [take_succ' hmv]; exact rin
            · rw [List.length_append, List.length_append, List.length_singleton, List.length_singleton]; omega
        · rintro σ H7 ⟨s7, t7, ⟨o5'', rfl⟩, hq7, F7, pend7, ys7, hpl7, hall7, map7, ri7, hμ7⟩
          rw [← hzs.len, List.take_length] at ri7
          exact ⟨_, by omega, s7, F7, pend7, ys7, _, _, rfl, hpl7, hall7, map7, ri7.fin, rfl, by omega⟩
end
end PW
end

section
set_option Elab.async false
set_option maxRecDepth 100000
set_option maxHeartbeats 4000000
set_option linter.all false
/-! Walks: way_to. -/
namespace PW
open PySem L2 PX PR
section
variable {P : Program} {w : World} {K : PySem.W.Frag} {mg : Str → Option Value} {base : Heap} {c : Cs}
theorem pair_mem {κ α : Type} [DecidableEq κ] {R : Rp α} {H : Hp} {KK : List (κ × α)} {kvs : List (κ × V)} (h : Paired (fun (x : κ × α) (p : κ × V) => p.1 = x.1 ∧ R H x.2 p.2) KK kvs) {k : κ} {x : α} : (KK.map (·.1)).Nodup → (k, x) ∈ KK → ∃ v, valV kvs k = some v ∧ R H x v := by
  induction h with
  | nil => intro _ hm; cases hm
  | @cons y p KK kvs h t ih =>
    intro nd hm
    rw [List.map_cons, List.nodup_cons] at nd
    unfold valV
    rw [List.find?_cons, h.1]
    rcases List.mem_cons.mp hm with e | hm'
    · rw [← e]
      simp only [decide_true]
      exact ⟨p.2, rfl, by have := h.2; rw [← e] at this; exact this⟩
    · have hne : ¬ y.1 = k := fun z => nd.1 (by rw [z]; exact List.mem_map.mpr ⟨(k, x), hm', rfl⟩)
      simp only [decide_eq_false hne]
      exact ih nd.2 hm'
def spWayTo (P : Program) (w : World) : Sp := fun vs H Q _ => ∃ (F : List FD) (d : Addr) (hv : V) (h r : Hd) (ms : List Mov), vs = [.ref d, hv] ∧ MapR pdR P w H d F ∧ hdR H h hv ∧ (keysD F).Nodup ∧ Chn F h ms r ∧ ms.length ≤ 1000 ∧
  ∀ q ys H', Same H H' → H q = none → H' q = some (.lst ys) → All movR H' ms ys → Q (.ref q) H'
theorem sc_wayTo : FnScope ["found", "head", "moves", "move"] ["found", "head"] (defScope sWayTo) := ⟨rfl, rfl, rfl, by decide +kernel, rfl, by decide +kernel, by decide +kernel⟩
theorem ok_wayTo (T : Txt K mg c) {f : Addr} {fd : FuncData} (F : Fun K "way_to" "way_to" sWayTo f fd) : FnOk P w K mg base CX0 1 f fd ["found", "head"] (spWayTo P w) := by
  refine F.ok sc_wayTo (fun vs H Q E h => ?_) (fun cdv A outer s H vs Q E hr h => ?_)
  · obtain ⟨F, d, hv, h, r, ms, rfl, _⟩ := h
    rfl
  · obtain ⟨F, d, hv, h, r, ms, rfl, hmap, ⟨hb, rfl, hhb⟩, nd, hch, hlen, k⟩ := h
    have hu := hu_of hr
    refine ⟨_, (pss_cons (ps_set (i := 2) sc_wayTo.nd rfl (by first | exact Or.inl rfl | exact Or.inr rfl) (pe_lst pa_nil))
      (pss_cons (ps_while PassesOwn.never (pt_cmpR op_notN (pe_xget Hd hu (pv 0) (pv 1) (fun _ _ => rfl)) pe_non (nomark _))
          (pss_cons (ps_asg (pe_xget Hd hu (pv 0) (pv 1) (fun _ _ => rfl)) (pg_tup rfl (pgs_cons (pg_name (i := 1) sc_wayTo.nd rfl (by first | exact Or.inl rfl | exact Or.inr rfl)) (pgs_cons (pg_name (i := 3) sc_wayTo.nd rfl (by first | exact Or.inl rfl | exact Or.inr rfl)) pgs_nil))))
            (pss_one (ps_expr (pe_bm PySem.F.plainAttrs_list PySem.F.slot_list_append PySem.F.type_list_append mt_append (pv 2) (pa_cons (pv 3) pa_nil))))))
      (pss_one (ps_ret (pe_revL (pv 2)))))), ?_⟩
    refine q_asgL va_nil fun q hq => ?_
    have s0 : Same H (upd H q (.lst [])) := sm_up hq
    refine q_whileE (fun μ σ H' => Same H H' ∧ ∃ (h' : Hd) (ms1 ms2 : List Mov) (hb : Addr) (ys : List V) (o3 : Option V), σ = [some (.ref d), some (.ref hb), some (.ref q), o3] ∧ H' hb = some (.tup (DKey.vs h')) ∧ Chn F h' ms1 r ∧ ms = ms1 ++ ms2 ∧ H' q = some (.lst ys) ∧ All movR H' ms2.reverse ys ∧ μ = ms1.length)
      ⟨_, s0, h, ms, [], hb, [], _, rfl, s0 _ _ hhb, hch, by simp, upd_same, .nil, rfl⟩ ?_
    rintro μ σ H1 ⟨s1, h', ms1, ms2, hb', ys, o3, rfl, hhb', hch', hms, hq1, hall, hμ⟩
    obtain ⟨kvs, d1, pk⟩ := hmap.mono pdR_m (.same s1)
    cases hch' with
    | root hmem =>
      obtain ⟨v, hv, rfl⟩ := pair_mem pk nd hmem
      refine a_test (v_notN1 (v_xget (k := r) (val_var rfl) (val_var rfl) d1 hhb' hv)) _ (iteF ?_)
      refine s_retE (val_var rfl _ ⟨q, ys, rfl, SqL.of hq1, fun p hp => k p _ _ (sm_new s1 hp) (s1.free hp) upd_same ?_⟩)
      rw [hms, List.nil_append]
      have := (hall.mono (H' := upd H1 p (.lst ys.reverse)) movR_m (.new hp)).rev
      rw [List.reverse_reverse] at this
      exact this
    | @step _ h'' _ mv ms1' hmem hch'' =>
      obtain ⟨v, hv, va, x, y, rfl, hva, ⟨hb'', rfl, hhb''⟩, ry⟩ := pair_mem pk nd hmem
      refine a_test (v_notN0 (v_xget (k := h') (val_var rfl) (val_var rfl) d1 hhb' hv)) _ (iteT ⟨_, fun _ _ h => h, ?_⟩)
      refine v_xget (k := h') (val_var rfl) (val_var rfl) d1 hhb' hv _ (g_two hva ?_)
      have hl2 : ms2.length ≤ 1000 := by
        have := congrArg List.length hms
        rw [List.length_append] at this
        omega
      refine s_append (val_var rfl) hq1 (val_var rfl _ ⟨ys, hq1, big6 (by rw [← hall.len, List.length_reverse]; omega), ?_⟩)
      have tp : Tp H1 (upd H1 q (.lst (ys ++ [y]))) := .lst hq1
      refine ⟨_, ?_, sm_own s1 hq, h'', ms1', mv :: ms2, hb'', _, _, rfl, tp _ _ hhb'', hch'', by rw [hms]; simp, upd_same, ?_, rfl⟩
      · rw [hμ, List.length_append, List.length_singleton]; omega
      · rw [List.reverse_cons]
        exact (hall.mono movR_m tp).snoc (movR_m.mono tp ry)
end
end PW
end

section
set_option Elab.async false
set_option maxRecDepth 100000
set_option maxHeartbeats 4000000
set_option linter.all false
/-! Walks: descents. -/
namespace PW
open PySem L2 PX PR
section
variable {P : Program} {w : World} {K : PySem.W.Frag} {mg : Str → Option Value} {base : Heap} {c : Cs}
/-- a loop over the pairs of a locked dict -/
theorem for_I {d : Addr} {od : Obj} {kvs : List (Key × V)} {g : TG} {tb : TS} {D : Ends} {σ : L2.St} {H : Hp} (Pv : Nat → L2.St → Hp → Prop) (h0 : Pv 0 σ H)
    (hl : ∀ i σ H, Pv i σ H → H d = some (.frz od (.dK kvs)))
    (hs : ∀ (i : Nat) (k : Key) (v : V) (T : Addr) (σ : L2.St) (H : Hp), kvs[i]? = some (k, v) → H T = none → Pv i σ H → g (.ref T) σ (upd H T (.tup [kV k, v])) fun σ2 H2 => tb { D with nx := Pv (i + 1), ct := Pv (i + 1), bk := D.nx } σ2 H2)
    (hd : ∀ σ H, Pv kvs.length σ H → D.nx σ H) :
    ∃ W : Nat → Nat → L2.St → Hp → Prop, (∃ m, W 0 m σ H) ∧ ∀ i m σ H, W i m σ H →
      ((Iti d od kvs).stop i H ∧ D.nx σ H) ∨ ((Iti d od kvs).go i H ∧ ∃ N : L2.St → Hp → Prop, (∀ σ' H', N σ' H' → ∃ m', m' < m ∧ W (i + 1) m' σ' H') ∧ ∀ x H', (Iti d od kvs).yld i H x H' → g x σ H' fun σ2 H2 => tb { D with nx := N, ct := N, bk := D.nx } σ2 H2) := by
  refine ⟨fun i m σ H => m = kvs.length - i ∧ i ≤ kvs.length ∧ Pv i σ H, ⟨kvs.length, rfl, Nat.zero_le _, h0⟩, ?_⟩
  rintro i m σ H ⟨rfl, hi, p⟩
  have q1 := hl i σ H p
  by_cases hlt : i < kvs.length
  · refine .inr ⟨⟨q1, hlt⟩, Pv (i + 1), fun σ' H' p' => ⟨kvs.length - (i + 1), by omega, rfl, hlt, p'⟩, fun x H' y => ?_⟩
    obtain ⟨T, k, v, hkv, rfl, hT, rfl⟩ := y
    exact hs i k v T σ H hkv hT p
  · obtain rfl : i = kvs.length := by omega
    exact .inl ⟨⟨q1, Nat.le_refl _⟩, hd σ H p⟩
theorem s_items {σ : L2.St} {H : Hp} {td : TE} {g : TG} {tb : TS} {D : Ends} {d : Addr} {od : Obj} {kvs : List (Key × V)} (hv : Val td σ H (.ref d)) (hz : H d = some (.frz od (.dK kvs)))
    (h : ∃ W : Nat → Nat → L2.St → Hp → Prop, (∃ m, W 0 m σ H) ∧ ∀ i m σ H, W i m σ H →
      ((Iti d od kvs).stop i H ∧ D.nx σ H) ∨ ((Iti d od kvs).go i H ∧ ∃ N : L2.St → Hp → Prop, (∀ σ' H', N σ' H' → ∃ m', m' < m ∧ W (i + 1) m' σ' H') ∧ ∀ x H', (Iti d od kvs).yld i H x H' → g x σ H' fun σ2 H2 => tb { D with nx := N, ct := N, bk := D.nx } σ2 H2)) : tFor (iItems td) g tb D σ H := hv _ ⟨d, od, kvs, rfl, hz, h⟩
theorem paired_at {α β : Type} {R : α → β → Prop} : ∀ {as : List α} {xs : List β}, Paired R as xs → ∀ {i : Nat} {x : β}, xs[i]? = some x → ∃ a, as[i]? = some a ∧ R a x
  | _, _, .nil, i, x, h => by simp at h
  | _, _, .cons h t, i, x, e => by
    cases i with
    | zero => simp at e; subst e; exact ⟨_, rfl, h⟩
    | succ i => exact paired_at t (by simpa using e)
def LevP (H : Hp) (lev : Lev) (kvs : List (Key × V)) : Prop := Paired (fun (x : Int × List Ent) (p : Key × V) => p.1 = Sum.inl x.1 ∧ tupR entR H x.2 p.2) lev kvs
def LevD (H : Hp) (d : Addr) (lev : Lev) : Prop := ∃ kvs : List (Key × V), H d = some (.dK kvs) ∧ LevP H lev kvs
theorem LevP.mono {H H' : Hp} {lev : Lev} {kvs : List (Key × V)} (e : Tp H H') (h : LevP H lev kvs) : LevP H' lev kvs := Paired.mapP h fun _ _ z => ⟨z.1, (tupR_m keyR_m).mono e z.2⟩
theorem lev_in {H : Hp} {lev : Lev} {kvs : List (Key × V)} (h : LevP H lev kvs) (s : Int) : (valV kvs (Sum.inl s)).isSome = true ↔ s ∈ lev.map (·.1) := by
  unfold valV
  rw [Option.isSome_map, List.find?_isSome]
  unfold LevP at h
  induction h with
  | nil => simp
  | @cons x p lev kvs h t ih =>
    rw [List.map_cons, List.mem_cons, ← ih]
    constructor
    · rintro ⟨y, hy, e⟩
      rcases List.mem_cons.mp hy with rfl | hy
      · left
        have : y.1 = Sum.inl s := by simpa using e
        rw [h.1] at this
        cases this
        rfl
      · exact .inr ⟨y, hy, e⟩
    · rintro (rfl | ⟨y, hy, e⟩)
      · exact ⟨p, List.mem_cons_self, by simpa using h.1⟩
      · exact ⟨y, List.mem_cons_of_mem _ hy, e⟩
theorem e_dnin {σ : L2.St} {H : Hp} {ty td : TE} {d : Addr} {kvs : List (Key × V)} {n : Int} {Q : VK} (hy : Val ty σ H (.int n)) (hd : Val td σ H (.ref d)) (h : H d = some (.dK kvs)) (q : Q (.bl (!(valV kvs (Sum.inl n)).isSome)) H) : tDNotIn ty td σ H Q := hy _ (hd _ ⟨d, _, rfl, .inl ⟨kvs, Sum.inl n, .inl h, rfl, rfl⟩, q⟩)
theorem s_dputN {σ : L2.St} {H : Hp} {ty td tv : TE} {D : Ends} {d : Addr} {kvs : List (Key × V)} {n : Int} {xs : List V} (hv : New1 tv σ H xs) (hd : ∀ H1, Same H H1 → Val td σ H1 (.ref d)) (hy : ∀ H1, Same H H1 → Val ty σ H1 (.int n)) (h : H d = some (.dK kvs)) (hl : kvs.length < 100000)
    (q : ∀ b H1, Same H H1 → H1 b = some (.tup xs) → D.nx σ (upd H1 d (.dK (putK kvs (Sum.inl n) (.ref b))))) : sDPut td ty tv D σ H :=
  hv _ fun b H1 s1 hb => hd H1 s1 _ (hy H1 s1 _ ⟨d, _, rfl, .inl ⟨kvs, Sum.inl n, s1 _ _ h, rfl, big6 hl, rfl⟩, q b H1 s1 hb⟩)
theorem put_newK {kvs : List (Key × V)} {k : Key} {v : V} (h : ¬ (valV kvs k).isSome = true) : putK kvs k v = kvs ++ [(k, v)] := by
  unfold putK
  rw [if_neg]
  intro z
  refine h ?_
  unfold valV
  rw [Option.isSome_map, List.find?_isSome]
  obtain ⟨p, hp, e⟩ := List.any_eq_true.mp z
  exact ⟨p, hp, e⟩
theorem low1_old {es : List Ent} {low : Lev} {e : Ent} (h : e.g ∈ low.map (·.1)) : low1 es low e = low := by unfold low1; rw [if_pos h]
theorem low1_new {es : List Ent} {low : Lev} {e : Ent} (h : ¬ e.g ∈ low.map (·.1)) : low1 es low e = low ++ [(e.g, es ++ [e])] := by unfold low1; rw [if_neg h]
theorem bgn1_old {l : Int} {B : Bgn} {be : Int × List Ent} (h : (be.1, l) ∈ B.map (·.1)) : bgn1 l B be = B := by unfold bgn1; rw [if_pos h]
theorem bgn1_new {l : Int} {B : Bgn} {be : Int × List Ent} (h : ¬ (be.1, l) ∈ B.map (·.1)) : bgn1 l B be = B ++ [((be.1, l), be.2)] := by unfold bgn1; rw [if_neg h]
theorem bgn_len (l : Int) : ∀ (xs : Lev) (B : Bgn), (xs.foldl (bgn1 l) B).length ≤ B.length + xs.length
  | [], B => Nat.le_refl _
  | x :: xs, B => by
    rw [List.foldl_cons]
    refine Nat.le_trans (bgn_len l xs _) ?_
    have : (bgn1 l B x).length ≤ B.length + 1 := by
      unfold bgn1
      split
      · omega
      · simp
    rw [List.length_cons]
    omega
theorem desc_len {M : Mach} {T : List Ent} {cf : Int × List Int} {i : Nat} {lev : Lev} {B : Bgn} (ok : M.Ok) (d : DescP M T cf i lev B) : B.length ≤ 12 := by
  have := nodup_le d.desc.nd fun x hx => mem_hdBox (d.box x hx)
  rw [List.length_map] at this
  exact Nat.le_trans this (len_hdBox ok)
def spDescents (P : Program) (w : World) (c : Cs) : Sp := fun vs H Q _ => ∃ (M : Mach) (T : List Ent) (cf : Int × List Int) (cv : V) (tb tdx md fd ld : Addr) (tm : V) (L : List Addr) (n : Nat), vs = [.ref tb, cv] ∧ M.Ok ∧ (∀ e ∈ T, EntIn M e) ∧ T.length ≤ 96 ∧ CfgOk M cf ∧ cfgR H cf cv ∧ H tb = some (.ins c.to tdx (toF tm md fd ld)) ∧ MM entR P w H ld (atHd T) L n ∧
  ∀ d B lev H', Same H H' → H d = none → MapM (tupR entR) P w H' d B → DescP M T cf cf.2.length lev B → Q (.ref d) H'
theorem sc_descents : FnScope ["table", "configuration", "state", "pile", "found", "level", "letter", "lower", "before", "entries", "entry"] ["table", "configuration"] (defScope sDescents) := ⟨rfl, rfl, rfl, by decide +kernel, rfl, by decide +kernel, by decide +kernel⟩
theorem ok_descents (T : Txt K mg c) {f : Addr} {fd : FuncData} (F : Fun K "descents" "descents" sDescents f fd) : FnOk P w K mg base CX0 2 f fd ["table", "configuration"] (spDescents P w c) := by
  obtain ⟨f2, fd2, F2, b2, m2⟩ := T.toEntries
  have G2 : FnOk P w K mg base CX0 1 f2 fd2 ["self", "state", "letter"] (spToEntries P w c) := ok_toEntries T F2
  refine F.ok sc_descents (fun vs H Q E h => ?_) (fun cdv A outer s H vs Q E hr h => ?_)
  · obtain ⟨M, TT, cf, cv, tb, tdx, md, fd, ld, tm, L, n, rfl, _⟩ := h
    rfl
  · obtain ⟨M, TT, cf, cv, tb, tdx, md, fd, ld, tm, L, n, rfl, ok, hT, hTl, hcf, ⟨ct, x, y, rfl, hct, rx, pt, ps, ry, hpt, hps⟩, htb, mm, k⟩ := h
    cases rx
    cases ry
    have hps' := all_ints hps
    subst hps'
    have hu := hu_of hr
    refine ⟨_, (pss_cons (ps_asg (pv 1) (pg_tup rfl (pgs_cons (pg_name (i := 2) sc_descents.nd rfl (by first | exact Or.inl rfl | exact Or.inr rfl)) (pgs_cons (pg_name (i := 3) sc_descents.nd rfl (by first | exact Or.inl rfl | exact Or.inr rfl)) pgs_nil))))
      (pss_cons (ps_set (i := 4) sc_descents.nd rfl (.inl rfl) (pe_xnew Hd))
      (pss_cons (ps_set (i := 5) sc_descents.nd rfl (by first | exact Or.inl rfl | exact Or.inr rfl) (pe_disp (pps_cons (pv 2) (pe_tup pa_nil) pps_nil) rfl rfl (by intro h; cases h) (by decide)))
      (pss_cons (ps_for PassesOwn.never rfl (pi_tup (pv 3)) (pg_name (i := 6) sc_descents.nd rfl (by first | exact Or.inl rfl | exact Or.inr rfl))
          (pss_cons (ps_set (i := 7) sc_descents.nd rfl (by first | exact Or.inl rfl | exact Or.inr rfl) pe_dnewK)
            (pss_cons (ps_lock (ps_for PassesOwn.never rfl (pi_items (pv 5)) (pg_tup rfl (pgs_cons (pg_name (i := 8) sc_descents.nd rfl (by first | exact Or.inl rfl | exact Or.inr rfl)) (pgs_cons (pg_name (i := 9) sc_descents.nd rfl (by first | exact Or.inl rfl | exact Or.inr rfl)) pgs_nil)))
                (pss_cons (ps_if (pt_cmp (pc_xnotin Hd hu (pe_tup (pa_cons (pv 8) (pa_cons (pv 6) pa_nil))) (pv 4)) (by rfl))
                      (pss_one (ps_xput Hd hu (pv 4) (pe_tup (pa_cons (pv 8) (pa_cons (pv 6) pa_nil))) (pv 9) rfl))
                      pss_nil)
                  (pss_one (ps_for PassesOwn.never rfl (pi_list (pe_meth (pv 0) T.to.cl m2 G2 hr b2 .nil pass0 (pa_cons (pv 8) (pa_cons (pv 6) pa_nil)))) (pg_name (i := 10) sc_descents.nd rfl (by first | exact Or.inl rfl | exact Or.inr rfl))
                      (pss_one (ps_if (pt_cmp (pc_dnotin hu (pe_ix ix_tup (pv 10) pe_int (fun _ _ => rfl)) (pv 7)) (by rfl))
                          (pss_one (ps_dput hu (pv 7) (pe_ix ix_tup (pv 10) pe_int (fun _ _ => rfl)) (pe_op op_catA (pv 9) (pe_tup (pa_cons (pv 10) pa_nil))) rfl))
                          pss_nil)))))))
            (pss_one (ps_set (i := 5) sc_descents.nd rfl (by first | exact Or.inl rfl | exact Or.inr rfl) (pv 7))))))
      (pss_one (ps_ret (pv 4))))))), ?_⟩
    refine ⟨_, rfl, g_two hct ?_⟩
    refine q_asg (e_xnew fun fo H1 hfo e1 d1 => ?_)
    have s1 : Same H H1 := by rw [e1]; exact sm_up hfo
    refine q_asg (te := tDisp _) fun lv0 hlv0 => ?_
    refine val_var rfl _ (t_tup va_nil fun t0 ht0 => ⟨?_, [(Sum.inl cf.1, .ref t0)], rfl, by show 1 ≤ 15; decide, ?_⟩)
    · rw [upd_ne (fun z => by rw [← z, upd_same] at ht0; cases ht0), upd_same]
    have nt0 : t0 ≠ lv0 := fun z => by rw [z, upd_same] at ht0; cases ht0
    have hl00 : H lv0 = none := s1.free hlv0
    have nfl0 : fo ≠ lv0 := fun z => by rw [← z, e1, upd_same] at hlv0; cases hlv0
    have s2 : Same H (upd (upd (upd H1 lv0 (.dK [])) t0 (.tup [])) lv0 (.dK (mergeK [] [(Sum.inl cf.1, .ref t0)]))) := sm_own (sm_new (sm_new s1 hlv0) ht0) hl00
    have lev0 : LevD (upd (upd (upd H1 lv0 (.dK [])) t0 (.tup [])) lv0 (.dK (mergeK [] [(Sum.inl cf.1, .ref t0)]))) lv0 [(cf.1, [])] :=
      ⟨_, upd_same, .cons ⟨rfl, t0, [], rfl, by rw [upd_ne nt0, upd_same], .nil⟩ .nil⟩
    have nft : fo ≠ t0 := fun z => by rw [← z, upd_ne nfl0, e1, upd_same] at ht0; cases ht0
    have map0 : MapM (tupR entR) P w (upd (upd (upd H1 lv0 (.dK [])) t0 (.tup [])) lv0 (.dK (mergeK [] [(Sum.inl cf.1, .ref t0)]))) fo ([] : Bgn) := by
      obtain ⟨ys, q1, q2⟩ := d1
      cases q2
      exact ⟨[], ⟨[], by rw [upd_ne nfl0, upd_ne nft, upd_ne nfl0]; exact q1, .nil⟩, .nil⟩
    generalize (upd (upd (upd H1 lv0 (.dK [])) t0 (.tup [])) lv0 (.dK (mergeK [] [(Sum.inl cf.1, .ref t0)]))) = H2 at s2 lev0 map0
    refine q_tup (xs := cf.2.map V.int) (val_var rfl) (SqT.of (s2 _ _ hpt)) (fun i σ H' => Same H H' ∧ ∃ (lev : Lev) (B : Bgn) (lv : Addr) (o6 o7 o8 o9 o10 : Option V), σ = [some (.ref tb), some (.ref ct), some (.int cf.1), some (.ref pt), some (.ref fo), some (.ref lv), o6, o7, o8, o9, o10] ∧ H lv = none ∧ fo ≠ lv ∧ LevD H' lv lev ∧ MapM (tupR entR) P w H' fo B ∧ DescP M TT cf i lev B)
      ⟨s2, [(cf.1, [])], [], lv0, _, _, _, _, _, rfl, hl00, nfl0, lev0, map0, .init hcf⟩ (fun i σ H' p => SqT.of (p.1 _ _ hpt)) ?_ ?_
    · rintro i x σ H3 hx ⟨s3, lev, B, lv, o6, o7, o8, o9, o10, rfl, hlv, nfl, ⟨kvs, hlk, lp⟩, map3, dp⟩
      obtain ⟨l, hl, rfl⟩ := ints_get hx
      have hi5 : i < 5 := Nat.lt_of_lt_of_le (List.getElem?_eq_some_iff.mp hl).1 hcf.2.2.2
      have levl : lev.length ≤ 4 := lev_len ok dp.nd dp.at'
      refine g_name ?_
      refine q_asg (te := tDNewK) fun lw hlw => ?_
      have hlw0 : H lw = none := s3.free hlw
      have nlw : lv ≠ lw := fun z => by rw [z, hlw] at hlk; cases hlk
      have nfw : fo ≠ lw := fun z => by
        obtain ⟨φ, q⟩ := map3.ext
        rw [z, hlw] at q; cases q
      have s4 : Same H3 (upd H3 lw (.dK [])) := sm_up hlw
      have hlk4 := s4 _ _ hlk
      have hlw4 : (upd H3 lw (.dK [])) lw = some (.dK []) := upd_same
      have lp4 := lp.mono (.same s4)
      have map4 := map3.same (tupR_m keyR_m) s4
      have s04 := s3.trans s4
      generalize (upd H3 lw (.dK [])) = H4 at s4 hlk4 hlw4 lp4 map4 s04
      refine ⟨lv, .dK kvs, hlk4, trivial, fun od => ?_⟩
      refine s_items (val_var rfl) upd_same ?_
      refine for_I (fun j σ H' => Same H H' ∧ (∃ o8 o9 o10, σ = [some (.ref tb), some (.ref ct), some (.int cf.1), some (.ref pt), some (.ref fo), some (.ref lv), some (.int l), some (.ref lw), o8, o9, o10]) ∧ H' lv = some (.frz od (.dK kvs)) ∧ LevP H' lev kvs ∧ LevD H' lw ((lev.take j).foldl (lowJ TT l) []) ∧ MapM (tupR entR) P w H' fo ((lev.take j).foldl (bgn1 l) B))
        ⟨sm_own s04 hlv, ⟨_, _, _, rfl⟩, upd_same, lp4.mono (.upd fun xs z => by rw [hlk4] at z; cases z), ⟨[], by rw [upd_ne nlw.symm]; exact hlw4, .nil⟩, map4.stay (tupR_m keyR_m) (upd_ne nfl) (.upd fun xs z => by rw [hlk4] at z; cases z)⟩ (fun j σ H' q => q.2.2.1) ?_ ?_
      · rintro j kk v TT2 σ H5 hkv hT2 ⟨s5, ⟨o8', o9', o10', rfl⟩, hfz5, lp5, ⟨kw, hw5, lw5⟩, map5⟩
        obtain ⟨be, hbe, hk1, ea, eys, rfl, hea, heys⟩ : ∃ be : Int × List Ent, lev[j]? = some be ∧ kk = Sum.inl be.1 ∧ ∃ ea eys, v = .ref ea ∧ H5 ea = some (.tup eys) ∧ All entR H5 be.2 eys := by
          obtain ⟨be, h1, h2, h3⟩ := paired_at lp5 hkv
          exact ⟨be, h1, h2, h3⟩
        subst hk1
        have hbat := dp.at' be (List.mem_of_getElem? hbe)
        have s6 : Same H5 (upd H5 TT2 (.tup [kV (Sum.inl be.1), .ref ea])) := sm_up hT2
        have hT6 : (upd H5 TT2 (.tup [kV (Sum.inl be.1), .ref ea])) TT2 = some (.tup [.int be.1, .ref ea]) := upd_same
        have hfz6 := s6 _ _ hfz5
        have hw6 := s6 _ _ hw5
        have lw6 := lw5.mono (.same s6)
        have lp6 := lp5.mono (.same s6)
        have map6 := map5.same (tupR_m keyR_m) s6
        have hea6 := s6 _ _ hea
        have heys6 := heys.mono keyR_m (.same s6)
        have s06 := s5.trans s6
        generalize (upd H5 TT2 (.tup [kV (Sum.inl be.1), .ref ea])) = H6 at s6 hT6 hfz6 hw6 lw6 lp6 map6 hea6 heys6 s06
        refine g_two hT6 ?_
        have eB : (lev.take (j + 1)).foldl (bgn1 l) B = bgn1 l ((lev.take j).foldl (bgn1 l) B) be := by rw [take_succ' hbe, List.foldl_append]; rfl
        have eL : (lev.take (j + 1)).foldl (lowJ TT l) [] = lowJ TT l ((lev.take j).foldl (lowJ TT l) []) be := by rw [take_succ' hbe, List.foldl_append]; rfl
        -- the inner loop, from any heap where found is as it is to be
        have inner : ∀ (H7 : Hp) (D : Ends), Same H H7 → H7 lv = some (.frz od (.dK kvs)) → LevP H7 lev kvs → LevD H7 lw ((lev.take j).foldl (lowJ TT l) []) → H7 ea = some (.tup eys) → All entR H7 be.2 eys → MapM (tupR entR) P w H7 fo (bgn1 l ((lev.take j).foldl (bgn1 l) B) be) →
            (∀ σ H', (Same H H' ∧ (∃ o8 o9 o10, σ = [some (.ref tb), some (.ref ct), some (.int cf.1), some (.ref pt), some (.ref fo), some (.ref lv), some (.int l), some (.ref lw), o8, o9, o10]) ∧ H' lv = some (.frz od (.dK kvs)) ∧ LevP H' lev kvs ∧ LevD H' lw ((lev.take (j + 1)).foldl (lowJ TT l) []) ∧ MapM (tupR entR) P w H' fo ((lev.take (j + 1)).foldl (bgn1 l) B)) → D.nx σ H') →
            tFor (iList K (tMeth c.to "entries" (spToEntries P w c) [] E0 (tVar 0) (tCons (tVar 8) (tCons (tVar 6) tNil)))) (gName 10) (tIfS (tTest (tDNotIn (tOp (rIxT K) (tVar 10) (tC (.int 2))) (tVar 7))) (sDPut (tVar 7) (tOp (rIxT K) (tVar 10) (tC (.int 2))) (tOp (rCatA K) (tVar 9) (tTup (tCons (tVar 10) tNil)))) tNext)
              D [some (.ref tb), some (.ref ct), some (.int cf.1), some (.ref pt), some (.ref fo), some (.ref lv), some (.int l), some (.ref lw), some (.int be.1), some (.ref ea), o10'] H7 := by
          intro H7 D s7 hfz7 lp7 lw7 hea7 heys7 map7 kD
          refine s_listE (e_meth (val_var rfl) (s7 _ _ htb) (toF_no _ _ _ _ (by decide +kernel) (by decide +kernel) (by decide +kernel) (by decide +kernel)) (va_cons (val_var rfl) (va_cons (val_var rfl) va_nil)) ⟨tb, tdx, md, fd, ld, tm, L, n, _, be.1, l, rfl, s7 _ _ htb, mm.same keyR_m s7, fun q zs H8 s8 hq8 hqo hzs => ?_⟩)
          refine ⟨q, rfl, ⟨zs, SqL.of hq8⟩, lpL (xs := zs) (fun n3 σ H' => Same H H' ∧ Tp H8 H' ∧ (∃ o10, σ = [some (.ref tb), some (.ref ct), some (.int cf.1), some (.ref pt), some (.ref fo), some (.ref lv), some (.int l), some (.ref lw), some (.int be.1), some (.ref ea), o10]) ∧ H' q = some (.lst zs) ∧ H' lv = some (.frz od (.dK kvs)) ∧ LevP H' lev kvs ∧ LevD H' lw (((atHd TT (be.1, l)).take n3).foldl (low1 be.2) ((lev.take j).foldl (lowJ TT l) [])) ∧ MapM (tupR entR) P w H' fo (bgn1 l ((lev.take j).foldl (bgn1 l) B) be))
            ⟨s7.trans s8, Tp.refl _, ⟨_, rfl⟩, hq8, s8 _ _ hfz7, lp7.mono (.same s8), (let ⟨kw, q1, q2⟩ := lw7; ⟨kw, s8 _ _ q1, q2.mono (.same s8)⟩), map7.same (tupR_m keyR_m) s8⟩ (fun n3 σ H' r => SqL.of r.2.2.2.1) ?_ ?_⟩
          · rintro n3 x σ H9 hx9 ⟨s9, t9, ⟨o10'', rfl⟩, hq9, hfz9, lp9, ⟨kw9, hw9, lw9⟩, map9⟩
            obtain ⟨e, he, xa, rfl, hxa⟩ := hzs.get' hx9
            have hxa9 := t9 _ _ hxa
            refine g_name ?_
            have elow : ((atHd TT (be.1, l)).take (n3 + 1)).foldl (low1 be.2) ((lev.take j).foldl (lowJ TT l) []) = low1 be.2 (((atHd TT (be.1, l)).take n3).foldl (low1 be.2) ((lev.take j).foldl (lowJ TT l) [])) e := by rw [take_succ' he, List.foldl_append]; rfl
            have lowAt : ∀ y ∈ ((atHd TT (be.1, l)).take n3).foldl (low1 be.2) ((lev.take j).foldl (lowJ TT l) []), LevAt M TT cf (i + 1) y := low_at hT hl hbat (fun y hy => List.mem_of_mem_take hy) (levs_at hT hl (fun y hy => dp.at' y (List.mem_of_mem_take hy)) (fun y hy => by cases hy))
            refine s_ifE (a_testE (e_dnin (v_ixT (val_var rfl) val_c hxa9 (atI_nat (j := 2) rfl)) (val_var rfl) hw9 ⟨_, rfl, ?_⟩))
            by_cases hin : e.g ∈ (((atHd TT (be.1, l)).take n3).foldl (low1 be.2) ((lev.take j).foldl (lowJ TT l) [])).map (·.1)
            · rw [(lev_in lw9 e.g).mpr hin]
              refine iteF ⟨s9, t9, ⟨_, rfl⟩, hq9, hfz9, lp9, ⟨kw9, hw9, ?_⟩, map9⟩
              rw [elow, low1_old hin]
              exact lw9
            · have hnk : ¬ (valV kw9 (Sum.inl e.g)).isSome = true := fun z => hin ((lev_in lw9 e.g).mp z)
              rw [Bool.eq_false_iff.mpr hnk]
              have hkwl : kw9.length ≤ 4 := by
                have h1 : kw9.length = (((atHd TT (be.1, l)).take n3).foldl (low1 be.2) ((lev.take j).foldl (lowJ TT l) [])).length := (Paired.length lw9).symm
                rw [h1]
                refine lev_len ok ?_ lowAt
                rw [lows_keys]
                refine foldl_ins_nd ?_
                rw [levs_keys]
                exact foldl_ins_nd List.nodup_nil
              refine iteT (s_dputN (e_catT (val_var rfl) (t9 _ _ (s8 _ _ hea7)) (new1_tup (va_cons (val_var rfl) va_nil)) (by rw [← heys.len, hbat.1]; simp; omega)) (fun _ _ => val_var rfl) (fun H10 s10 => v_ixT (val_var rfl) val_c (s10 _ _ hxa9) (atI_nat (j := 2) rfl)) hw9 (by omega) fun nb H10 s10 hnb => ?_)
              have hw10 := s10 _ _ hw9
              rw [put_newK hnk]
              have tp : Tp H10 (upd H10 lw (.dK (kw9 ++ [(Sum.inl e.g, .ref nb)]))) := .upd fun xs z => by rw [hw10] at z; cases z
              have nqw : q ≠ lw := fun z => by rw [z, hw9] at hq9; cases hq9
              refine ⟨sm_own (s9.trans s10) hlw0, (t9.trans (.same s10)).trans tp, ⟨_, rfl⟩, by rw [upd_ne nqw]; exact s10 _ _ hq9, by rw [upd_ne nlw]; exact s10 _ _ hfz9, lp9.mono ((Tp.same s10).trans tp), ⟨_, upd_same, ?_⟩, (map9.same (tupR_m keyR_m) s10).stay (tupR_m keyR_m) (upd_ne nfw) tp⟩
              rw [elow, low1_new hin]
              refine Paired.snoc (lw9.mono ((Tp.same s10).trans tp)) ⟨rfl, nb, _, rfl, tp _ _ hnb, ?_⟩
              exact (heys7.mono keyR_m ((((Tp.same s8).trans t9).trans (.same s10)).trans tp)).snoc ⟨xa, rfl, tp _ _ (s10 _ _ hxa9)⟩
          · rintro σ H9 ⟨s9, t9, ⟨o10'', rfl⟩, hq9, hfz9, lp9, lw9, map9⟩
            rw [← hzs.len, List.take_length] at lw9
            refine kD _ _ ⟨s9, ⟨_, _, _, rfl⟩, hfz9, lp9, ?_, ?_⟩
            · rw [eL]; exact lw9
            · rw [eB]; exact map9
        obtain ⟨kb, db6, pb6⟩ := id map6
        refine q_whenE (a_testE (e_xnin (k := ((be.1, l) : Hd)) (new1_tup (va_cons (val_var rfl) (va_cons (val_var rfl) va_nil))) (fun H7 s7 => val_var rfl) db6.rd fun H7 s7 => ⟨_, rfl, ?_⟩))
        by_cases hin : ((be.1, l) : Hd) ∈ ((lev.take j).foldl (bgn1 l) B).map (·.1)
        · rw [pair_in pb6 hin]
          refine iteF (inner H7 _ (s06.trans s7) (s7 _ _ hfz6) (lp6.mono (.same s7)) ⟨kw, s7 _ _ hw6, lw6.mono (.same s7)⟩ (s7 _ _ hea6) (heys6.mono keyR_m (.same s7)) ?_ fun σ H' q => q)
          rw [bgn1_old hin]
          exact map6.same (tupR_m keyR_m) s7
        · rw [pair_out pb6 hin]
          have hBl : kb.length < 100000 := by
            have h1 := bgn_len l (lev.take j) B
            have h2 := desc_len ok dp
            rw [List.length_take] at h1
            rw [MapM.len pb6]; omega
          refine iteT (s_xput (k := ((be.1, l) : Hd)) (val_var rfl) (val_var rfl) (new1_tup (va_cons (val_var rfl) (va_cons (val_var rfl) va_nil))) (db6.same s7) hBl fun H8 H9 s8 h9 => ?_)
          have s78 := s7.trans s8
          obtain ⟨dm9, fr9, lo9⟩ := DXm.put h9 (db6.same s78)
          have map9 : MapM (tupR entR) P w H9 fo (((lev.take j).foldl (bgn1 l) B) ++ [((be.1, l), be.2)]) := MapM.add (tupR_m keyR_m) (map6.same (tupR_m keyR_m) s78) hin ⟨ea, eys, rfl, s78 _ _ hea6, heys6.mono keyR_m (.same s78)⟩ (Paired.mapP pb6 fun _ _ z => ⟨z.1, (tupR_m keyR_m).mono (.same s78) z.2⟩) (db6.same s78) h9
          have nl : ∀ {b : Addr} {u : HO}, H8 b = some u → b ≠ fo → H9 b = some u := fun h hne => fr9 _ _ h fun z => hne (List.mem_singleton.mp z)
          refine inner H9 _ (fr9.base (s06.trans s78) fun b z => by rw [List.mem_singleton.mp z]; exact hfo) (nl (s78 _ _ hfz6) nfl.symm) (lp6.mono ((Tp.same s78).trans lo9.tp)) ⟨kw, nl (s78 _ _ hw6) nfw.symm, lw6.mono ((Tp.same s78).trans lo9.tp)⟩ (lo9.tup (s78 _ _ hea6)) (heys6.mono keyR_m ((Tp.same s78).trans lo9.tp)) ?_ fun σ H' q => q
          rw [bgn1_new hin]
          exact map9
      · rintro σ H5 ⟨s5, ⟨o8', o9', o10', rfl⟩, hfz5, lp5, ⟨kw, hw5, lw5⟩, map5⟩
        refine ⟨hfz5, ?_⟩
        have el : kvs.length = lev.length := (Paired.length lp5).symm
        rw [el, List.take_length] at lw5 map5
        have tp : Tp H5 (upd H5 lv (.dK kvs)) := .upd fun xs z => by rw [hfz5] at z; cases z
        refine s_set (val_var rfl) ⟨sm_own s5 hlv, levJ TT l lev, bgnJ l lev B, lw, _, _, _, _, _, rfl, hlw0, nfw, ⟨kw, by rw [upd_ne nlw.symm]; exact hw5, lw5.mono tp⟩, map5.stay (tupR_m keyR_m) (upd_ne nfl) tp, dp.step hcf hT hl⟩
    · rintro σ H3 ⟨s3, lev, B, lv, o6, o7, o8, o9, o10, rfl, hlv, nfl, _, map3, dp⟩
      rw [List.length_map] at dp
      exact s_ret (val_var rfl) (k _ _ _ _ s3 hfo map3 dp)
end
end PW
end

section
set_option Elab.async false
set_option maxRecDepth 100000
set_option maxHeartbeats 4000000
set_option linter.all false
/-! Walks: ring_at. -/
namespace PW
open PySem L2 PX PR
section
variable {P : Program} {w : World} {K : PySem.W.Frag} {mg : Str → Option Value} {base : Heap} {c : Cs}
theorem s_xkeys {κ : Type} [DecidableEq κ] [DKey κ] {σ : L2.St} {H : Hp} {td : TE} {g : TG} {tb : TS} {D : Ends} {d : Addr} {od : Obj} {xs : List (List Leaf × Addr × Value)} {kvs : List (κ × V)} (hv : Val td σ H (.ref d)) (hz : H d = some (.frz od (dxO P w d xs))) (he : DXe H kvs xs)
    (h : ∃ W : Nat → Nat → L2.St → Hp → Prop, (∃ m, W 0 m σ H) ∧ ∀ i m σ H, W i m σ H →
      ((ItX P w d od xs kvs).stop i H ∧ D.nx σ H) ∨ ((ItX P w d od xs kvs).go i H ∧ ∃ N : L2.St → Hp → Prop, (∀ σ' H', N σ' H' → ∃ m', m' < m ∧ W (i + 1) m' σ' H') ∧ ∀ x H', (ItX P w d od xs kvs).yld i H x H' → g x σ H' fun σ2 H2 => tb { D with nx := N, ct := N, bk := D.nx } σ2 H2)) : tFor (iXKeys κ P w td) g tb D σ H := hv _ ⟨d, od, xs, kvs, rfl, hz, he, h⟩
/-- what ring_at gives -/
def RingIs (M : Mach) (mk : Int → Bool) (T : List Ent) (F : List FD) (v : V) (H : Hp) : Prop := (v = .non ∧ NoRing M mk T F) ∨ ∃ t h mv ms x y q ys, v = .ref t ∧ H t = some (.tup [x, y, .ref q]) ∧ hdR H h x ∧ movR H mv y ∧ H q = some (.lst ys) ∧ All movR H ms ys ∧ h ∈ keysD F ∧ mv ∈ movs M mk T h ∧ mv.m = true ∧ Path M mk T mv.e ms h ∧ ms.length ≤ 12
def spRingAt (P : Program) (w : World) (c : Cs) : Sp := fun vs H Q _ => ∃ (M : Mach) (mk : Int → Bool) (T : List Ent) (S : List Hd) (F : List FD) (a dx md d : Addr) (L : List Addr) (n : Nat), vs = [.ref a, .ref d] ∧ M.Ok ∧ (∀ e ∈ T, EntIn M e) ∧ T.length ≤ 96 ∧ H a = some (.ins c.hd dx (hdF md)) ∧ MM movR P w H md (movs M mk T) L n ∧ d ∉ L ∧ MapM pdR P w H d F ∧ ReachOk M mk T S F ∧
  ∀ v H', Same H H' → RingIs M mk T F v H' → Q v H'
theorem sc_ringAt : FnScope ["heads", "found", "head", "move", "back"] ["heads", "found"] (defScope sRingAt) := ⟨rfl, rfl, rfl, by decide +kernel, rfl, by decide +kernel, by decide +kernel⟩
theorem ok_ringAt (T : Txt K mg c) {f : Addr} {fd : FuncData} (F : Fun K "ring_at" "ring_at" sRingAt f fd) : FnOk P w K mg base CX0 3 f fd ["heads", "found"] (spRingAt P w c) := by
  obtain ⟨f1, fd1, F1, b1, m1⟩ := T.hdMoves
  obtain ⟨f2, fd2, F2, b2, m2⟩ := T.hdReached
  obtain ⟨f3, fd3, F3, b3, m3⟩ := T.wayTo
  have G1 : FnOk P w K mg base CX0 1 f1 fd1 ["self", "head"] (spHdMoves P w c) := ok_hdMoves T F1
  have G2 : FnOk P w K mg base CX0 2 f2 fd2 ["self", "heads"] (spReached P w c) := ok_reached T F2
  have G3 : FnOk P w K mg base CX0 1 f3 fd3 ["found", "head"] (spWayTo P w) := ok_wayTo T F3
  refine F.ok sc_ringAt (fun vs H Q E h => ?_) (fun cdv A outer s H vs Q E hr h => ?_)
  · obtain ⟨M, mk, TT, S, F, a, dx, md, d, L, n, rfl, _⟩ := h
    rfl
  · obtain ⟨M, mk, TT, S, F, a, dx, md, d, L, n, rfl, ok, hT, hTl, ha, mm, hdL, map, ro, k⟩ := h
    have hu := hu_of hr
    have hr1 : Room 1 _ := hr.mono (by decide)
    refine ⟨_, (pss_cons (ps_lock (ps_for PassesOwn.never rfl (pi_xkeys Hd (pv 1)) (pg_name (i := 2) sc_ringAt.nd rfl (by first | exact Or.inl rfl | exact Or.inr rfl))
          (pss_one (ps_for PassesOwn.never rfl (pi_list (pe_meth (pv 0) T.hd.cl m1 G1 hr1 b1 .nil pass0 (pa_cons (pv 2) pa_nil))) (pg_name (i := 3) sc_ringAt.nd rfl (by first | exact Or.inl rfl | exact Or.inr rfl))
              (pss_one (ps_if (pt_val (pe_ix ix_tup (pv 3) pe_int (fun _ _ => rfl)))
                  (pss_cons (ps_set (i := 4) sc_ringAt.nd rfl (by first | exact Or.inl rfl | exact Or.inr rfl) (pe_meth (pv 0) T.hd.cl m2 G2 hr b2 .nil pass0 (pa_cons (pe_lst (pa_cons (pe_ix ix_tup (pv 3) pe_int (fun _ _ => rfl)) pa_nil)) pa_nil)))
                    (pss_one (ps_if (pt_cmp (pc_xin Hd hu (pv 2) (pv 4)) (by rfl))
                        (pss_one (ps_ret (pe_tup (pa_cons (pv 2) (pa_cons (pv 3) (pa_cons (pe_call G3 hr1 (by rfl) m3 F3.kp b3 .nil pass0 (pa_cons (pv 4) (pa_cons (pv 2) pa_nil))) pa_nil))))))
                        pss_nil)))
                  pss_nil))))))
      (pss_one (ps_ret pe_non))), ?_⟩
    obtain ⟨kvs, ⟨xs, hd0, dxe⟩, pk⟩ := id map
    refine ⟨d, _, hd0, trivial, fun od => ?_⟩
    have nad : a ≠ d := fun z => by rw [z, hd0] at ha; cases ha
    have tp0 : Tp H (upd H d (.frz od (dxO P w d xs))) := .ext hd0
    have mmL : MM movR P w (upd H d (.frz od (dxO P w d xs))) md (movs M mk TT) L n := mm.frame movR_m (fun b hb => upd_ne fun z => hdL (by rw [← z]; exact hb)) tp0
    have haL : (upd H d (.frz od (dxO P w d xs))) a = some (.ins c.hd dx (hdF md)) := by rw [upd_ne nad]; exact ha
    have hdz : (upd H d (.frz od (dxO P w d xs))) d = some (.frz od (dxO P w d xs)) := upd_same
    have keys : kvs.map (·.1) = F.map (·.1) := pair_keys pk
    have hnod : (keysD F).Nodup := ro.p.nd
    refine s_xkeys (kvs := kvs) (val_var rfl) hdz (dxe.keeps fun b ys q => tp0 b _ q) ?_
    refine for_X (fun i σ H' => Same (upd H d (.frz od (dxO P w d xs))) H' ∧ (∃ o2 o3 o4, σ = [some (.ref a), some (.ref d), o2, o3, o4]) ∧ ∀ h ∈ (keysD F).take i, ∀ mv ∈ movs M mk TT h, mv.m = true → ¬ ∃ ms, Path M mk TT mv.e ms h)
      ⟨Same.refl _, ⟨_, _, _, rfl⟩, fun h hh => by cases hh⟩ (fun i σ H' _ p => ⟨p.1 _ _ hdz, dxe.keeps fun b ys q => p.1 _ _ (tp0 b _ q)⟩) ?_ ?_
    · rintro i h v hb σ H1 hkv hhb ⟨s1, ⟨o2, o3, o4, rfl⟩, hno⟩
      have hki : (keysD F)[i]? = some h := by
        unfold keysD
        rw [← keys, List.getElem?_map, hkv]; rfl
      have hkm : h ∈ keysD F := List.mem_of_getElem? hki
      refine g_name ?_
      refine s_listE (e_meth (val_var rfl) (s1 _ _ haL) (hdF_no _ (by decide +kernel)) (va_cons (val_var rfl) va_nil) ⟨a, dx, md, .ref hb, h, _, L, n, rfl, s1 _ _ haL, ⟨hb, rfl, hhb⟩, mmL.same movR_m s1, fun q zs H2 s2 hq2 hqo hzs => ?_⟩)
      refine ⟨q, rfl, ⟨zs, SqL.of hq2⟩, lpL (xs := zs) (fun j σ H' => Same H2 H' ∧ (∃ o3 o4, σ = [some (.ref a), some (.ref d), some (.ref hb), o3, o4]) ∧ ∀ mv ∈ (movs M mk TT h).take j, mv.m = true → ¬ ∃ ms, Path M mk TT mv.e ms h)
        ⟨Same.refl _, ⟨_, _, rfl⟩, fun mv hm => by cases hm⟩ (fun j σ H' r => SqL.of (r.1 _ _ hq2)) ?_ ?_⟩
      · rintro j x σ H3 hx3 ⟨s3, ⟨o3', o4', rfl⟩, hno3⟩
        obtain ⟨mv, hmv, xa, x0, x1, rfl, hxa, ⟨eh, rfl, heh⟩, hpv⟩ := hzs.get' hx3
        have hmem := List.mem_of_getElem? hmv
        have hxa3 := s3 _ _ hxa
        refine g_name ?_
        refine s_ifE (a_val (v_ixT (val_var rfl) val_c hxa3 (atI_nat (j := 1) rfl)) _ ?_)
        have s123 := (s1.trans s2).trans s3
        cases hmark : mv.m with
        | false =>
          refine iteF ⟨s3, ⟨_, _, rfl⟩, fun mv' hm' hmm => ?_⟩
          rw [take_succ' hmv] at hm'
          rcases List.mem_append.mp hm' with z | z
          · exact hno3 mv' z hmm
          · simp at z; subst z; rw [hmark] at hmm; cases hmm
        | true =>
          refine iteT ?_
          refine q_asg (e_methE (val_var rfl) (s123 _ _ haL) (hdF_no _ (by decide +kernel)) (tcons_E (t_lst (va_cons (v_ixT (val_var rfl) val_c hxa3 (atI_nat (j := 0) rfl)) va_nil) fun p hp => v_nil ?_)))
          have s4 : Same H3 (upd H3 p (.lst [.ref eh])) := sm_up hp
          have hp4 : (upd H3 p (.lst [.ref eh])) p = some (.lst [.ref eh]) := upd_same
          have heh4 := s4 _ _ (s3 _ _ heh)
          generalize upd H3 p (.lst [.ref eh]) = H4 at s4 hp4 heh4
          have s14 := s123.trans s4
          refine ⟨M, mk, TT, a, dx, md, .ref p, [mv.e], L, n, rfl, ok, hT, s14 _ _ haL, mmL.same movR_m s14, ⟨p, _, rfl, hp4, .cons ⟨eh, rfl, heh4⟩ .nil⟩, Nat.le_of_ble_eq_true rfl, fun h' hh' => ?_, fun bd FB H5 s5 hbd5 mapB roB => ?_⟩
          · simp at hh'; subst hh'; exact mov_box ok hT hmem
          have s15 := s14.trans s5
          obtain ⟨kb, dkb, pkb⟩ := id mapB
          have hhb5 : H5 hb = some (.tup (DKey.vs h)) := ((s2.trans s3).trans (s4.trans s5)) _ _ hhb
          refine s_ifE (a_testE (e_xin (k := h) (new1_val (val_var rfl) hhb5) (fun H6 s6 => val_var rfl) dkb.rd fun H6 s6 => ⟨_, rfl, ?_⟩))
          have s16 := s15.trans s6
          by_cases hin : h ∈ keysD FB
          · rw [pair_in pkb hin]
            obtain ⟨ms, r, chn, lms⟩ := roB.p.chain hin
            have lFB := roB.p.len ok
            have pth := roB.p.path chn
            have hr0 : r = mv.e := by
              have := roB.p.none' r pth.2
              simpa using this
            subst hr0
            refine iteT ?_
            refine s_retE (t_tupE (v_cons (val_var rfl) (v_cons (val_var rfl) (tcons_E (e_call (va_cons (val_var rfl) (va_cons (val_var rfl) va_nil)) ⟨FB, bd, .ref hb, h, mv.e, ms, rfl, (mapB.same pdR_m s6).r, ⟨hb, rfl, s6 _ _ hhb5⟩, roB.p.nd, chn, by omega, fun q2 ys2 H7 s7 hq2n hq7 hys7 => v_nil ⟨by show 3 ≤ sizeLine; decide, fun t ht => ?_⟩⟩)))))
            have s17 := (s16.trans s7)
            have s18 : Same (upd H d (.frz od (dxO P w d xs))) (upd H7 t (.tup [.ref hb, .ref xa, .ref q2])) := sm_new s17 ht
            have hdz8 := s18 _ _ hdz
            refine ⟨hdz8, k _ _ (sm_unlock hd0 s18) (.inr ⟨t, h, mv, ms, .ref hb, .ref xa, q2, ys2, rfl, ?_, ?_, ?_, ?_, ?_, hkm, hmem, hmark, pth.1, by omega⟩)⟩
            all_goals have tpu : Tp (upd H7 t (.tup [.ref hb, .ref xa, .ref q2])) (upd (upd H7 t (.tup [.ref hb, .ref xa, .ref q2])) d (dxO P w d xs)) := .upd fun xs z => by rw [hdz8] at z; cases z
            · exact tpu _ _ upd_same
            · exact ⟨hb, rfl, tpu _ _ (sm_up ht _ _ (s7 _ _ (s6 _ _ hhb5)))⟩
            · exact movR_m.mono (((Tp.same ((((s3.trans s4).trans s5).trans s6).trans s7)).trans (.new ht)).trans tpu) ⟨xa, .ref eh, x1, rfl, hxa, ⟨eh, rfl, heh⟩, hpv⟩
            · have hq8 := sm_up (o := .tup [.ref hb, .ref xa, .ref q2]) ht _ _ hq7
              have n2 : q2 ≠ d := fun z => by rw [z, s17 _ _ hdz] at hq7; cases hq7
              rw [upd_ne n2]
              exact hq8
            · exact hys7.mono movR_m ((Tp.new ht).trans tpu)
          · rw [pair_out pkb hin]
            refine iteF ⟨s3.trans ((s4.trans s5).trans s6), ⟨_, _, rfl⟩, fun mv' hm' hmm => ?_⟩
            rw [take_succ' hmv] at hm'
            rcases List.mem_append.mp hm' with z | z
            · exact hno3 mv' z hmm
            · simp at z; subst z; exact no_way roB hin
      · rintro σ H3 ⟨s3, ⟨o3', o4', rfl⟩, hno3⟩
        rw [← hzs.len, List.take_length] at hno3
        refine ⟨(s1.trans s2).trans s3, ⟨_, _, _, rfl⟩, fun h' hh' => ?_⟩
        rw [take_succ' hki] at hh'
        rcases List.mem_append.mp hh' with z | z
        · exact hno h' z
        · have z' : h' = h := by simpa using z
          rw [z']
          exact hno3
    · rintro σ H1 ⟨s1, ⟨o2, o3, o4, rfl⟩, hno⟩
      refine ⟨s1 _ _ hdz, ?_⟩
      show tRet (tC .non) { nx := fun x H' => Q V.non H', rt := Q } [some (.ref a), some (.ref d), o2, o3, o4] (upd H1 d (dxO P w d xs))
      refine s_ret val_c (k _ _ (sm_unlock hd0 s1) (.inl ⟨rfl, fun h hh => hno h ?_⟩))
      have : kvs.length = (keysD F).length := by
        unfold keysD
        rw [← keys, List.length_map]
      rw [this, List.take_length]
      exact hh
end
end PW
end

section
set_option Elab.async false
set_option maxRecDepth 100000
set_option maxHeartbeats 4000000
set_option linter.all false
/-! Walks: told_ranks. -/
namespace PW
open PySem L2 PX PR
section
variable {P : Program} {w : World} {K : PySem.W.Frag} {mg : Str → Option Value} {base : Heap} {c : Cs}
theorem map_int {H : Hp} {R : List (Hd × Int)} {kvs : List (Hd × V)} (h : Paired (fun (x : Hd × Int) (p : Hd × V) => p.1 = x.1 ∧ intR H x.2 p.2) R kvs) (k : Hd) : valV kvs k = (rankOf R k).map V.int := by
  unfold valV rankOf
  induction h with
  | nil => rfl
  | @cons x p R kvs h t ih =>
    rw [List.find?_cons, List.find?_cons, h.1]
    by_cases e : x.1 = k
    · simp only [decide_eq_true e]
      exact congrArg some h.2
    · simp only [decide_eq_false e]
      exact ih
theorem map_set {H H' : Hp} {R : List (Hd × Int)} {kvs : List (Hd × V)} (h : Paired (fun (x : Hd × Int) (p : Hd × V) => p.1 = x.1 ∧ intR H x.2 p.2) R kvs) {k : Hd} (hk : k ∈ R.map (·.1)) (r : Int) : Paired (fun (x : Hd × Int) (p : Hd × V) => p.1 = x.1 ∧ intR H' x.2 p.2) (setR R k r) (putK kvs k (.int r)) := by
  have hin : (kvs.any fun kv => decide (kv.1 = k)) = true := by
    rw [← pair_keys h] at hk
    obtain ⟨p, hp, e⟩ := List.mem_map.mp hk
    exact List.any_eq_true.mpr ⟨p, hp, by simpa using e⟩
  unfold putK setR
  rw [if_pos hin]
  clear hin hk
  induction h with
  | nil => exact .nil
  | @cons x p R kvs h t ih =>
    refine .cons ?_ ih
    show (if p.1 = k then (p.1, V.int r) else p).1 = (if x.1 = k then (x.1, r) else x).1 ∧ (if p.1 = k then (p.1, V.int r) else p).2 = V.int (if x.1 = k then (x.1, r) else x).2
    by_cases e : x.1 = k
    · rw [if_pos (h.1.trans e), if_pos e]; exact ⟨h.1, rfl⟩
    · rw [if_neg (fun z => e (h.1.symm.trans z)), if_neg e]; exact ⟨h.1, h.2⟩
theorem rankOf_iff {R : List (Hd × Int)} (nd : (R.map (·.1)).Nodup) (h : Hd) (r : Int) : rankOf R h = some r ↔ (h, r) ∈ R := by
  unfold rankOf
  induction R with
  | nil => simp
  | cons p R ih =>
    rw [List.map_cons, List.nodup_cons] at nd
    rw [List.find?_cons, List.mem_cons]
    by_cases e : p.1 = h
    · simp only [decide_eq_true e, Option.map_some, Option.some.injEq]
      constructor
      · intro z; left; rw [← e, ← z]
      · rintro (z | z)
        · rw [← z]
        · exact absurd (List.mem_map.mpr ⟨(h, r), z, rfl⟩) (by rw [← e]; exact nd.1)
    · simp only [decide_eq_false e]
      rw [ih nd.2]
      constructor
      · exact .inr
      · rintro (z | z)
        · exact absurd (by rw [← z]) e
        · exact z
theorem rankOf_perm {R R' : List (Hd × Int)} (p : R'.Perm R) (nd' : (R'.map (·.1)).Nodup) (nd : (R.map (·.1)).Nodup) (h : Hd) : rankOf R' h = rankOf R h := by
  have key : ∀ r, rankOf R' h = some r ↔ rankOf R h = some r := fun r => by rw [rankOf_iff nd', rankOf_iff nd, p.mem_iff]
  cases e : rankOf R h with
  | some r => exact (key r).mpr e
  | none =>
    cases e2 : rankOf R' h with
    | none => rfl
    | some r => rw [(key r).mp e2] at e; cases e
theorem items_pair {H5 : Hp} : ∀ {ts : List Addr} {kr : List (Hd × V)} {R : List (Hd × Int)}, Paired (PairAt H5) ts kr → Paired (fun (x : Hd × Int) (p : Hd × V) => p.1 = x.1 ∧ intR H5 x.2 p.2) R kr → Paired (fun x b => Dp K H5 x (encRk b) ∧ rkR H5 b x) (ts.map V.ref) R
  | _, _, _, .nil, .nil => .nil
  | _, _, _, .cons h t, .cons g u => by
    obtain ⟨b, hb1, hb2⟩ := h
    obtain ⟨g1, g2⟩ := g
    rw [show _ = V.int _ from g2] at hb1
    rw [g1] at hb2
    exact .cons ⟨.tup (SqT.of hb1) (.cons (dp_hd hb2) (.cons (.int _) .nil)), _, .ref b, .int _, rfl, hb1, ⟨b, rfl, hb2⟩, rfl⟩ (items_pair t u)
def AllOk (M : Mach) (mk : Int → Bool) (T : List Ent) (R : List (Hd × Int)) (h : Hd) (ms : List Mov) : Prop := ∀ mv ∈ ms, ∀ r r', rankOf R h = some r → rankOf R mv.e = some r' → r' + b2i mv.m ≤ r
def spToldRanks (P : Program) (w : World) (c : Cs) : Sp := fun vs H Q _ => ∃ (M : Mach) (mk : Int → Bool) (T : List Ent) (S : List Hd) (F : List FD) (a dx md d : Addr) (L : List Addr) (n : Nat), vs = [.ref a, .ref d] ∧ M.Ok ∧ H a = some (.ins c.hd dx (hdF md)) ∧ MM movR P w H md (movs M mk T) L n ∧ d ∉ L ∧ MapM pdR P w H d F ∧ ReachOk M mk T S F ∧ NoRing M mk T F ∧
  ∀ v H' R, Same H H' → tupR rkR H' R v → RanksOk M mk T (keysD F) R → ascJ R = true → (∀ p ∈ R, p.1 ∈ keysD F) → (R.map (·.1)).Nodup → R.length ≤ 12 → Q v H'
theorem sc_toldRanks : FnScope ["heads", "found", "ranks", "head", "changed", "move", "rank"] ["heads", "found"] (defScope sToldRanks) := ⟨rfl, rfl, rfl, by decide +kernel, rfl, by decide +kernel, by decide +kernel⟩
theorem ok_toldRanks (T : Txt K mg c) {f : Addr} {fd : FuncData} (F : Fun K "told_ranks" "told_ranks" sToldRanks f fd) : FnOk P w K mg base CX0 2 f fd ["heads", "found"] (spToldRanks P w c) := by
  obtain ⟨f1, fd1, F1, b1, m1⟩ := T.hdMoves
  have G1 : FnOk P w K mg base CX0 1 f1 fd1 ["self", "head"] (spHdMoves P w c) := ok_hdMoves T F1
  refine F.ok sc_toldRanks (fun vs H Q E h => ?_) (fun cdv A outer s H vs Q E hr h => ?_)
  · obtain ⟨M, mk, TT, S, F, a, dx, md, d, L, n, rfl, _⟩ := h
    rfl
  · obtain ⟨M, mk, TT, S, F, a, dx, md, d, L, n, rfl, ok, ha, mm, hdL, map, ro, nr, k⟩ := h
    have hu := hu_of hr
    refine ⟨_, (pss_cons (ps_set (i := 2) sc_toldRanks.nd rfl (by first | exact Or.inl rfl | exact Or.inr rfl) (pe_xnew Hd))
      (pss_cons (ps_lock (ps_for PassesOwn.never rfl (pi_xkeys Hd (pv 1)) (pg_name (i := 3) sc_toldRanks.nd rfl (by first | exact Or.inl rfl | exact Or.inr rfl))
          (pss_one (ps_xput Hd hu (pv 2) (pv 3) pe_int rfl))))
      (pss_cons (ps_set (i := 4) sc_toldRanks.nd rfl (by first | exact Or.inl rfl | exact Or.inr rfl) pe_bl)
      (pss_cons (ps_while PassesOwn.never (pt_val (pv 4))
          (pss_cons (ps_set (i := 4) sc_toldRanks.nd rfl (by first | exact Or.inl rfl | exact Or.inr rfl) pe_bl)
            (pss_one (ps_lock (ps_for PassesOwn.never rfl (pi_xkeys Hd (pv 1)) (pg_name (i := 3) sc_toldRanks.nd rfl (by first | exact Or.inl rfl | exact Or.inr rfl))
                (pss_one (ps_for PassesOwn.never rfl (pi_list (pe_meth (pv 0) T.hd.cl m1 G1 hr b1 .nil pass0 (pa_cons (pv 3) pa_nil))) (pg_name (i := 5) sc_toldRanks.nd rfl (by first | exact Or.inl rfl | exact Or.inr rfl))
                    (pss_cons (ps_set (i := 6) sc_toldRanks.nd rfl (by first | exact Or.inl rfl | exact Or.inr rfl) (pe_op op_add (pe_xget Hd hu (pv 2) (pe_ix ix_tup (pv 5) pe_int (fun _ _ => rfl)) (fun _ _ => rfl)) (pe_callTy call_int1 (by rfl) T.b (by decide +kernel) (pa_cons (pe_ix ix_tup (pv 5) pe_int (fun _ _ => rfl)) pa_nil))))
                      (pss_one (ps_if (pt_cmpR op_gt (pv 6) (pe_xget Hd hu (pv 2) (pv 3) (fun _ _ => rfl)) (nomark _))
                          (pss_cons (ps_xput Hd hu (pv 2) (pv 3) (pv 6) rfl)
                            (pss_one (ps_set (i := 4) sc_toldRanks.nd rfl (by first | exact Or.inl rfl | exact Or.inr rfl) pe_bl)))
                          pss_nil))))))))))
      (pss_one (ps_ret (pe_callTy call_tuple_of (by rfl) T.b (by decide +kernel) (pa_cons (pe_callB (cr_sortedR encRk rkR hr.units) (by rfl) T.b (by decide +kernel) (pa_cons (pe_listItemsX Hd rfl (pv 2) (by rfl) T.b (by decide +kernel)) pa_nil)) pa_nil)))))))), ?_⟩
    obtain ⟨kvs, ⟨xs, hd0, dxe⟩, pk⟩ := id map
    have keys : kvs.map (·.1) = F.map (·.1) := pair_keys pk
    have klen : kvs.length = (keysD F).length := by
      unfold keysD
      rw [← keys, List.length_map]
    have hnod : (keysD F).Nodup := ro.p.nd
    have hF12 : F.length ≤ 12 := ro.p.len ok
    have nad : a ≠ d := fun z => by rw [z, hd0] at ha; cases ha
    refine q_asg (e_xnew fun rk H1 hrk e1 d1 => ?_)
    have s1 : Same H H1 := by rw [e1]; exact sm_up hrk
    have nrd : rk ≠ d := fun z => by rw [z, hd0] at hrk; cases hrk
    have nra : rk ≠ a := fun z => by rw [z, ha] at hrk; cases hrk
    have hrL : rk ∉ L := mm.live hrk
    have kat : ∀ {i : Nat} {h : Hd} {v : V}, kvs[i]? = some (h, v) → (keysD F)[i]? = some h := fun {i h v} e => by
      unfold keysD
      rw [← keys, List.getElem?_map, e]; rfl
    -- all ranks 0
    refine ⟨d, _, s1 _ _ hd0, trivial, fun od => ?_⟩
    have tp1 : Tp H1 (upd H1 d (.frz od (dxO P w d xs))) := .ext (s1 _ _ hd0)
    refine s_xkeys (kvs := kvs) (val_var rfl) upd_same (dxe.keeps fun b ys q => tp1 _ _ (s1 _ _ q)) ?_
    refine for_X (fun i σ H' => Fr [d] H H' ∧ H' d = some (.frz od (dxO P w d xs)) ∧ (∃ o3 o4 o5 o6, σ = [some (.ref a), some (.ref d), some (.ref rk), o3, o4, o5, o6]) ∧ MapM intR P w H' rk (((keysD F).take i).map fun h => (h, (0 : Int))))
      ⟨fun b u e nb => by rw [upd_ne fun z => nb (List.mem_singleton.mpr z)]; exact s1 _ _ e, upd_same, ⟨_, _, _, _, rfl⟩, ⟨[], d1.fr (upd_ne nrd) tp1, .nil⟩⟩
      (fun i σ H' _ p => ⟨p.2.1, dxe.keeps fun b ys q => p.1 _ _ q fun z => by rw [List.mem_singleton.mp z, hd0] at q; cases q⟩) ?_ ?_
    · rintro i h v hb σ H2 hkv hhb ⟨f2, hz2, ⟨o3, o4, o5, o6, rfl⟩, m2⟩
      have hki := kat hkv
      have hil := (List.getElem?_eq_some_iff.mp hki).1
      refine g_name ?_
      obtain ⟨kr, dr, pr⟩ := id m2
      refine s_xput (k := h) val_c (val_var rfl) (new1_val (val_var rfl) hhb) dr (by rw [MapM.len pr, List.length_map, List.length_take]; rw [show (keysD F).length = F.length from List.length_map ..] at *; omega) fun H3 H4 s3 h4 => ?_
      obtain ⟨dm4, fr4, lo4⟩ := DXm.put h4 (dr.same s3)
      have hn : h ∉ ((((keysD F).take i).map fun h => (h, (0 : Int))).map (·.1)) := by
        rw [List.map_map]
        intro z
        rw [show ((fun x : Hd × Int => x.1) ∘ fun h => (h, (0 : Int))) = id from rfl, List.map_id] at z
        obtain ⟨j, hj⟩ := List.mem_iff_getElem?.mp z
        have hj' := (List.getElem?_eq_some_iff.mp hj).1
        rw [List.length_take] at hj'
        rw [List.getElem?_take_of_lt (by omega)] at hj
        have := nd_at hnod hj hki
        omega
      refine ⟨fun b u e nb => fr4 _ _ (s3 _ _ (f2 _ _ e nb)) fun z => (by rw [List.mem_singleton.mp z, hrk] at e; cases e), fr4 _ _ (s3 _ _ hz2) fun z => nrd (List.mem_singleton.mp z).symm, ⟨_, _, _, _, rfl⟩, ?_⟩
      rw [take_succ' hki, List.map_append]
      exact MapM.add (x := (0 : Int)) intR_m (m2.same intR_m s3) hn rfl (Paired.mapP pr fun _ _ z => ⟨z.1, z.2⟩) (dr.same s3) h4
    · rintro σ H2 ⟨f2, hz2, ⟨o3, o4, o5, o6, rfl⟩, m2⟩
      rw [klen, List.take_length] at m2
      have s3 : Same H (upd H2 d (dxO P w d xs)) := fun b u e => by
        by_cases hb : b = d
        · rw [hb, hd0] at e
          rw [hb, upd_same]; exact e
        · rw [upd_ne hb]; exact f2 _ _ e fun z => hb (List.mem_singleton.mp z)
      have m3 : MapM intR P w (upd H2 d (dxO P w d xs)) rk ((keysD F).map fun h => (h, (0 : Int))) := m2.stay intR_m (upd_ne nrd) (.upd fun xs z => by rw [hz2] at z; cases z)
      refine ⟨hz2, ?_⟩
      refine q_set val_c ?_
      refine q_whileE (fun μ σ H' => Same H H' ∧ ∃ (chg : Bool) (R : List (Hd × Int)) (o3 o5 o6 : Option V), σ = [some (.ref a), some (.ref d), some (.ref rk), o3, some (.bl chg), o5, o6] ∧ MapM intR P w H' rk R ∧ RkP M mk TT F R ∧ (chg = false → ∀ h ∈ keysD F, AllOk M mk TT R h (movs M mk TT h)) ∧ μ = 2 * muR R + (if chg then 1 else 0))
        ⟨_, s3, true, _, _, _, _, rfl, m3, .init F, fun z => (by cases z), rfl⟩ ?_
      rintro μ σ H4 ⟨s4, chg, R, o3', o5', o6', rfl, m4, rp, hok, hμ⟩
      have hRl : R.length ≤ 12 := by
        have : (R.map (·.1)).length = (keysD F).length := by rw [rp.keys]
        rw [List.length_map, List.length_map] at this
        omega
      refine a_val (val_var rfl) _ ?_
      cases chg with
      | false =>
        refine iteF ?_
        -- the end: sorted
        obtain ⟨kr, dr, pr⟩ := id m4
        have ndR : (R.map (·.1)).Nodup := by rw [rp.keys]; exact hnod
        refine s_retE (tcons_E (tcons_E ?_))
        refine val_var rfl _ ⟨rk, kr, rfl, dr.rd, fun H5 p ts s5 hp hp5 hts => ?_⟩
        have prs : Paired (fun x b => Dp K H5 x (encRk b) ∧ rkR H5 b x) (ts.map V.ref) R := by
          have pr5 : Paired (fun (x : Hd × Int) (p : Hd × V) => p.1 = x.1 ∧ intR H5 x.2 p.2) R kr := Paired.mapP pr fun _ _ z => ⟨z.1, z.2⟩
          exact items_pair hts pr5
        refine ⟨p, _, R, rfl, SqL.of hp5, prs, alike_rk R, sortable_rk R, fun b _ => depth_rk b, fun ys p2 hp2 hys => ?_⟩
        refine ⟨p2, ys, rfl, .inl ⟨SqL.of upd_same, fun q hq => ?_⟩⟩
        obtain ⟨perm, asc⟩ := ranks_sorted ndR
        have s6 : Same H5 (upd (upd H5 p2 (.lst ys)) q (.tup ys)) := sm_new (sm_up hp2) hq
        have hall := (flip_all hys).mono rkR_m (.same s6)
        have hmem : ∀ x, x ∈ R.mergeSort (PySem.W.dataLe false encRk) ↔ x ∈ R := fun x => perm.mem_iff
        have hrk2 : ∀ h, rankOf (R.mergeSort (PySem.W.dataLe false encRk)) h = rankOf R h := fun h => rankOf_perm perm ((perm.map _).nodup_iff.mpr ndR) ndR h
        refine k _ _ _ ((s4.trans s5).trans s6) ⟨q, ys, rfl, upd_same, hall⟩ (rp.ok ro (fun h hh mv hm r r' => hok rfl h hh mv hm r r') hrk2 hmem) asc (fun x hx => ?_) ((perm.map _).nodup_iff.mpr ndR) (by rw [perm.length_eq]; exact hRl)
        rw [← rp.keys]
        exact List.mem_map.mpr ⟨x, (hmem x).mp hx, rfl⟩
      | true =>
        refine iteT ⟨_, fun _ _ h => h, ?_⟩
        refine q_set val_c ?_
        refine ⟨d, _, s4 _ _ hd0, trivial, fun od2 => ?_⟩
        have tp4 : Tp H4 (upd H4 d (.frz od2 (dxO P w d xs))) := .ext (s4 _ _ hd0)
        refine s_xkeys (kvs := kvs) (val_var rfl) upd_same (dxe.keeps fun b ys q => tp4 _ _ (s4 _ _ q)) ?_
        refine for_X (fun i σ H' => Fr [d] H H' ∧ H' d = some (.frz od2 (dxO P w d xs)) ∧ ∃ (chg : Bool) (R2 : List (Hd × Int)) (o3 o5 o6 : Option V), σ = [some (.ref a), some (.ref d), some (.ref rk), o3, some (.bl chg), o5, o6] ∧ MapM intR P w H' rk R2 ∧ RkP M mk TT F R2 ∧ muR R2 ≤ muR R ∧ (chg = true → muR R2 < muR R) ∧ (chg = false → ∀ h ∈ (keysD F).take i, AllOk M mk TT R2 h (movs M mk TT h)))
          ⟨fun b u e nb => by rw [upd_ne fun z => nb (List.mem_singleton.mpr z)]; exact s4 _ _ e, upd_same, false, R, _, _, _, rfl, m4.stay intR_m (upd_ne nrd) tp4, rp, Nat.le_refl _, fun z => (by cases z), fun _ h hh => by cases hh⟩
          (fun i σ H' _ p => ⟨p.2.1, dxe.keeps fun b ys q => p.1 _ _ q fun z => by rw [List.mem_singleton.mp z, hd0] at q; cases q⟩) ?_ ?_
        · rintro i h v hb σ H5 hkv hhb ⟨f5, hz5, chg, R2, o3, o5, o6, rfl, m5, rp5, hle5, hlt5, hok5⟩
          have hki := kat hkv
          have hkm : h ∈ keysD F := List.mem_of_getElem? hki
          have ha5 : H5 a = some (.ins c.hd dx (hdF md)) := f5 _ _ ha fun z => nad (List.mem_singleton.mp z)
          have tpH5 : Tp H H5 := fun b ys e => f5 _ _ e fun z => by rw [List.mem_singleton.mp z, hd0] at e; cases e
          have mm5 : MM movR P w H5 md (movs M mk TT) L n := mm.stay movR_m (fun b hb u e => f5 _ _ e fun z => hdL (by rw [← List.mem_singleton.mp z]; exact hb)) tpH5
          refine g_name ?_
          refine s_listE (e_meth (val_var rfl) ha5 (hdF_no _ (by decide +kernel)) (va_cons (val_var rfl) va_nil) ⟨a, dx, md, .ref hb, h, _, L, n, rfl, ha5, ⟨hb, rfl, hhb⟩, mm5, fun q zs H6 s6 hq6 hqo hzs => ?_⟩)
          have map6 := m5.same intR_m s6
          have nqr : q ≠ rk := fun z => by
            obtain ⟨φ, e⟩ := map6.ext
            rw [← z, hq6] at e; cases e
          refine ⟨q, rfl, ⟨zs, SqL.of hq6⟩, lpL (xs := zs) (fun j σ H' => Fr [d] H H' ∧ H' d = some (.frz od2 (dxO P w d xs)) ∧ Tp H6 H' ∧ H' q = some (.lst zs) ∧ ∃ (chg : Bool) (R2 : List (Hd × Int)) (o5 o6 : Option V), σ = [some (.ref a), some (.ref d), some (.ref rk), some (.ref hb), some (.bl chg), o5, o6] ∧ MapM intR P w H' rk R2 ∧ RkP M mk TT F R2 ∧ muR R2 ≤ muR R ∧ (chg = true → muR R2 < muR R) ∧ (chg = false → (∀ h ∈ (keysD F).take i, AllOk M mk TT R2 h (movs M mk TT h)) ∧ AllOk M mk TT R2 h ((movs M mk TT h).take j)))
            ⟨fun b u e nb => s6 _ _ (f5 _ _ e nb), s6 _ _ hz5, Tp.refl _, hq6, chg, R2, _, _, rfl, map6, rp5, hle5, hlt5, fun z => ⟨hok5 z, fun mv hm => by cases hm⟩⟩ (fun j σ H' r => SqL.of r.2.2.2.1) ?_ ?_⟩
          · rintro j x σ H7 hx7 ⟨f7, hz7, t7, hq7, chg7, R7, o5', o6', rfl, m7, rp7, hle7, hlt7, hok7⟩
            obtain ⟨mv, hmv, xa, x0, x1, rfl, hxa, ⟨eh, rfl, heh⟩, hpv⟩ := hzs.get' hx7
            have hmem := List.mem_of_getElem? hmv
            obtain ⟨r, hr⟩ := rp7.get hkm
            obtain ⟨r', hr'⟩ := rp7.get (ro.closed h hkm mv hmem)
            obtain ⟨kr, dr, pr⟩ := id m7
            have g1 : valV kr mv.e = some (.int r') := by rw [map_int pr, hr']; rfl
            have g2 : valV kr h = some (.int r) := by rw [map_int pr, hr]; rfl
            have hxa7 := t7 _ _ hxa
            have heh7 := t7 _ _ heh
            have hhb7 := t7 _ _ (s6 _ _ hhb)
            refine g_name ?_
            refine q_set (v_add (v_xget (val_var rfl) (v_ixT (val_var rfl) val_c hxa7 (atI_nat (j := 0) rfl)) dr.rd heh7 g1) (e_int (v_ixT (val_var rfl) val_c hxa7 (atI_nat (j := 1) rfl)) fun Q q => .inr ⟨mv.m, rfl, q⟩)) ?_
            refine s_ifE (a_test (v_gt (val_var rfl) (v_xget (k := h) (val_var rfl) (val_var rfl) dr.rd hhb7 g2)) _ ?_)
            by_cases hlt : r < r' + b2i mv.m
            · rw [decide_eq_true hlt]
              refine iteT ?_
              have hR7 : R7.length ≤ 12 := by
                have : (R7.map (·.1)).length = (keysD F).length := by rw [rp7.keys]
                rw [List.length_map, List.length_map] at this
                omega
              obtain ⟨rpN, muN⟩ := rp7.set ok ro nr hkm hmem hr hr' hlt
              refine q_xput (k := h) (val_var rfl) (val_var rfl) (new1_val (val_var rfl) hhb7) dr (by rw [MapM.len pr]; omega) fun H8 H9 s8 h9 => ?_
              obtain ⟨dm9, fr9, lo9⟩ := DXm.put h9 (dr.same s8)
              refine s_set val_c ⟨fun b u e nb => fr9 _ _ (s8 _ _ (f7 _ _ e nb)) fun z => (by rw [List.mem_singleton.mp z, hrk] at e; cases e), fr9 _ _ (s8 _ _ hz7) fun z => nrd (List.mem_singleton.mp z).symm, (t7.trans (.same s8)).trans lo9.tp, fr9 _ _ (s8 _ _ hq7) fun z => nqr (List.mem_singleton.mp z), true, setR R7 h (r' + b2i mv.m), _, _, rfl, ⟨_, dm9, map_set pr (by rw [rp7.keys]; exact hkm) _⟩, rpN, by omega, fun _ => by omega, fun z => (by cases z)⟩
            · rw [decide_eq_false hlt]
              refine iteF ⟨f7, hz7, t7, hq7, chg7, R7, _, _, rfl, m7, rp7, hle7, hlt7, fun z => ⟨(hok7 z).1, fun mv' hm' r1 r2 e1 e2 => ?_⟩⟩
              rw [take_succ' hmv] at hm'
              rcases List.mem_append.mp hm' with y | y
              · exact (hok7 z).2 mv' y r1 r2 e1 e2
              · have y' : mv' = mv := by simpa using y
                rw [y'] at e2 ⊢
                rw [hr] at e1
                rw [hr'] at e2
                cases e1
                cases e2
                omega
          · rintro σ H7 ⟨f7, hz7, t7, hq7, chg7, R7, o5', o6', rfl, m7, rp7, hle7, hlt7, hok7⟩
            rw [← hzs.len, List.take_length] at hok7
            refine ⟨f7, hz7, chg7, R7, _, _, _, rfl, m7, rp7, hle7, hlt7, fun z h' hh' => ?_⟩
            rw [take_succ' hki] at hh'
            rcases List.mem_append.mp hh' with y | y
            · exact (hok7 z).1 h' y
            · have y' : h' = h := by simpa using y
              rw [y']
              exact (hok7 z).2
        · rintro σ H5 ⟨f5, hz5, chg, R2, o3, o5, o6, rfl, m5, rp5, hle5, hlt5, hok5⟩
          rw [klen, List.take_length] at hok5
          refine ⟨hz5, ?_⟩
          have s5 : Same H (upd H5 d (dxO P w d xs)) := fun b u e => by
            by_cases hb : b = d
            · rw [hb, hd0] at e
              rw [hb, upd_same]; exact e
            · rw [upd_ne hb]; exact f5 _ _ e fun z => hb (List.mem_singleton.mp z)
          refine ⟨2 * muR R2 + (if chg then 1 else 0), ?_, s5, chg, R2, _, _, _, rfl, m5.stay intR_m (upd_ne nrd) (.upd fun xs z => by rw [hz5] at z; cases z), rp5, hok5, rfl⟩
          rw [hμ]
          cases chg with
          | true => have := hlt5 rfl; simp; omega
          | false => simp; omega
end
end PW
end

section
set_option Elab.async false
set_option maxRecDepth 100000
set_option maxHeartbeats 4000000
set_option linter.all false
/-! Walks: Rows.__init__, Rows.missing. -/
namespace PW
open PySem L2 PX PR
section
variable {P : Program} {w : World} {K : PySem.W.Frag} {mg : Str → Option Value} {base : Heap} {c : Cs}
def rwF (fd pd rl : Addr) : List (Str × V) := putF "rows" (.ref rl) (putF "places" (.ref pd) (putF "found" (.ref fd) []))
theorem ne_rw1 : ¬ (("found" : Str) = "rows") := by decide +kernel
theorem ne_rw2 : ¬ (("found" : Str) = "places") := by decide +kernel
theorem ne_rw3 : ¬ (("places" : Str) = "rows") := by decide +kernel
theorem rwF_found (fd pd rl : Addr) : (rwF fd pd rl).lookup ("found" : Str) = some (.ref fd) := lk_miss ne_rw1 (lk_miss ne_rw2 lk_hit)
theorem rwF_places (fd pd rl : Addr) : (rwF fd pd rl).lookup ("places" : Str) = some (.ref pd) := lk_miss ne_rw3 lk_hit
theorem rwF_rows (fd pd rl : Addr) : (rwF fd pd rl).lookup ("rows" : Str) = some (.ref rl) := lk_hit
theorem rwF_no (fd pd rl : Addr) {x : Str} (h1 : ¬ x = "rows") (h2 : ¬ x = "places") (h3 : ¬ x = "found") : (rwF fd pd rl).lookup x = none := lk_miss h1 (lk_miss h2 (lk_miss h3 rfl))
theorem rw_fld (T : Txt K mg c) {σ : L2.St} {H : Hp} {te : TE} {a dx : Addr} {fs : List (Str × V)} {fn : Str} {v : V} (h : H a = some (.ins c.rw dx fs)) (e : Val te σ H (.ref a)) (hm : fn ∈ (["found", "places", "rows"] : List Str)) (hl : fs.lookup fn = some v) : Val (tFld K te fn) σ H v := val_fld e h T.rw.cl (T.rw.no _ hm) hl
def plJ (PK : List Ent) : List (Ent × Int) := PK.mapIdx fun i e => (e, (i : Int))
theorem plJ_snoc (PK : List Ent) (e : Ent) : plJ (PK ++ [e]) = plJ PK ++ [(e, (PK.length : Int))] := by simp [plJ]
theorem plJ_keys (PK : List Ent) : (plJ PK).map (·.1) = PK := by
  apply List.ext_getElem?
  intro i
  unfold plJ
  rw [List.getElem?_map, List.getElem?_mapIdx]
  cases PK[i]? <;> rfl
theorem plJ_mem {PK : List Ent} {e : Ent} (h : e ∈ PK) : (e, ((PK.idxOf e : Nat) : Int)) ∈ plJ PK := by
  unfold plJ
  rw [List.mem_mapIdx]
  have hl := List.idxOf_lt_length_of_mem h
  exact ⟨PK.idxOf e, hl, by rw [List.getElem_idxOf hl]⟩
theorem e_lcW {σ : L2.St} {H : Hp} {ta te : TE} {g : TG} {tt : TT} {vs : List Nat} {Q : VK} {a : Addr} {xs : List V} (ha : Val ta σ H (.ref a)) (hx : SqT K H a xs)
    (h : ∀ D, H D = none → ∃ W : Nat → Nat → Hp → Prop, (∃ m, W 0 m (upd H D (.lst []))) ∧ ∀ i m H, W i m H →
      ((Itt K a).stop i H ∧ Q (.ref D) H) ∨ ((Itt K a).go i H ∧ ∃ Nx : Hp → Prop, (∀ H', Nx H' → ∃ m', m' < m ∧ W (i + 1) m' H') ∧ ∀ x H', (Itt K a).yld i H x H' → g x (wipe σ vs) H' fun σ2 H2 => wipe σ2 vs = wipe σ vs ∧ tt σ2 H2 fun b H3 =>
        if b = true then te σ2 H3 fun y H4 => ∃ acc, H4 D = some (.lst acc) ∧ acc.length < sizeLine ∧ Nx (upd H4 D (.lst (acc ++ [y]))) else Nx H3)) : tLc (iTup K ta) g tt te vs σ H Q := ha _ ⟨a, rfl, ⟨xs, hx⟩, h⟩
structure RwM (P : Program) (w : World) (c : Cs) (H0 H : Hp) (a pd rl : Addr) (KK : List FE) (PK : List Ent) (rows : List RowJ) : Prop where
  same : Same H0 H
  ob : ∃ dx fd, H a = some (.ins c.rw dx (rwF fd pd rl)) ∧ MapR feR P w H0 fd KK
  pl : MapM intR P w H pd (plJ PK)
  rows' : ∃ ys, H rl = some (.lst ys) ∧ All rowR H rows ys
  fpd : H0 pd = none
  frl : H0 rl = none
theorem RwM.up {H0 H H' : Hp} {a pd rl : Addr} {KK : List FE} {PK : List Ent} {rows : List RowJ} (t : RwM P w c H0 H a pd rl KK PK rows) (e : Same H H') : RwM P w c H0 H' a pd rl KK PK rows :=
  ⟨t.same.trans e, let ⟨dx, fd, h1, h2⟩ := t.ob; ⟨dx, fd, e _ _ h1, h2⟩, t.pl.same intR_m e, let ⟨ys, h1, h2⟩ := t.rows'; ⟨ys, e _ _ h1, h2.mono rowR_m (.same e)⟩, t.fpd, t.frl⟩
def spRwInit (P : Program) (w : World) (c : Cs) : Sp := fun vs H Q _ => ∃ (H0 : Hp) (KK : List FE) (p dx fd : Addr), vs = [.ref p, .ref fd] ∧ Same H0 H ∧ H0 p = none ∧ MapR feR P w H0 fd KK ∧ H p = some (.ins c.rw dx []) ∧
  ∀ H' pd rl, RwM P w c H0 H' p pd rl KK [] [] → Q .non H'
theorem sc_rwInit : FnScope ["self", "found"] ["self", "found"] (defScope sRwInit) := ⟨rfl, rfl, rfl, by decide +kernel, rfl, by decide +kernel, by decide +kernel⟩
theorem ok_rwInit (T : Txt K mg c) {f : Addr} {fd : FuncData} (F : Fun K "__init__" "Rows.__init__" sRwInit f fd) : FnOk P w K mg base CX0 1 f fd ["self", "found"] (spRwInit P w c) := by
  refine F.ok sc_rwInit (fun vs H Q E h => ?_) (fun cdv A outer s H vs Q E hr h => ?_)
  · obtain ⟨H0, KK, p, dx, fd, rfl, _⟩ := h
    rfl
  · obtain ⟨H0, KK, p, dx, fd, rfl, s0, p0, hmap, hp, k⟩ := h
    have hu := hu_of hr
    refine ⟨_, (pss_cons (ps_fld (pv 0) (pv 1) rfl)
      (pss_cons (ps_fld (pv 0) (pe_xnew Ent) rfl)
      (pss_one (ps_fld (pv 0) (pe_lst pa_nil) rfl)))), ?_⟩
    have NA := T.rw
    refine q_fldE (val_var rfl _ (val_var rfl _ ⟨p, c.rw, dx, [], rfl, hp, NA.cl, NA.no _ (by simp), (by decide), ?_⟩))
    refine q_fldE (e_xnew fun pd H1 hpd e1 d1 => ?_)
    have npp : pd ≠ p := fun z => by rw [z, upd_same] at hpd; cases hpd
    have hpd0 : H0 pd = none := s0.free (by rw [upd_ne npp] at hpd; exact hpd)
    refine val_var rfl _ ⟨p, c.rw, dx, _, rfl, by rw [e1, upd_ne npp.symm, upd_same], NA.cl, NA.no _ (by simp), few (len_put (n := 0) (Nat.le_refl _)) (by decide), ?_⟩
    refine ⟨Nat.zero_le _, fun rl hrl => ?_⟩
    have nrp : rl ≠ p := fun z => by rw [z, upd_same] at hrl; cases hrl
    have nrd : rl ≠ pd := fun z => by rw [z, upd_ne npp, e1, upd_same] at hrl; cases hrl
    have hrl0 : H0 rl = none := s0.free (by rw [upd_ne nrp, e1, upd_ne nrd, upd_ne nrp] at hrl; exact hrl)
    refine val_var rfl _ ⟨p, c.rw, dx, _, rfl, by rw [upd_ne nrp.symm, upd_same], NA.cl, NA.no _ (by simp), few (len_put (len_put (n := 0) (Nat.le_refl _))) (by decide), ?_⟩
    refine k _ pd rl ⟨?_, ⟨dx, fd, upd_same, hmap⟩, ?_, ⟨[], by rw [upd_ne nrp, upd_same], .nil⟩, hpd0, hrl0⟩
    · rw [e1]
      exact sm_own (sm_own (sm_own (sm_own (sm_own s0 p0) hpd0) p0) hrl0) p0
    · obtain ⟨ys, q1, q2⟩ := d1
      cases q2
      exact ⟨[], ⟨[], by rw [upd_ne npp, upd_ne nrd.symm, upd_ne npp]; exact q1, .nil⟩, .nil⟩
def spRwMissing (P : Program) (w : World) (c : Cs) : Sp := fun vs H Q _ => ∃ (H0 : Hp) (KK : List FE) (PK ps : List Ent) (rows : List RowJ) (a pd rl : Addr) (kv : V) (e : Ent) (i : Nat), vs = [.ref a, kv] ∧ RwM P w c H0 H a pd rl KK PK rows ∧ (keysE KK).Nodup ∧ (∀ p ∈ ps, p ∈ keysE KK) ∧ entR H e kv ∧ (e, i, ps) ∈ KK ∧ ps.length ≤ 2 ∧
  ∀ q ys H', Same H H' → H q = none → H' q = some (.lst ys) → All entR H' (restJ PK ps) ys → Q (.ref q) H'
theorem sc_rwMissing : FnScope ["self", "key", "parts", "part"] ["self", "key"] (defScope sRwMissing) := ⟨rfl, rfl, rfl, by decide +kernel, rfl, by decide +kernel, by decide +kernel⟩
theorem ok_rwMissing (T : Txt K mg c) {f : Addr} {fd : FuncData} (F : Fun K "missing" "Rows.missing" sRwMissing f fd) : FnOk P w K mg base CX0 1 f fd ["self", "key"] (spRwMissing P w c) := by
  refine F.ok sc_rwMissing (fun vs H Q E h => ?_) (fun cdv A outer s H vs Q E hr h => ?_)
  · obtain ⟨H0, KK, PK, ps, rows, a, pd, rl, kv, e, i, rfl, _⟩ := h
    rfl
  · obtain ⟨H0, KK, PK, ps, rows, a, pd, rl, kv, e, i, rfl, rw, nd, hps, ⟨ea, rfl, hea⟩, hmem, hl2, k⟩ := h
    have hu := hu_of hr
    refine ⟨_, (pss_cons (ps_set (i := 2) sc_rwMissing.nd rfl (by first | exact Or.inl rfl | exact Or.inr rfl) (pe_ix ix_tup (pe_xget Ent hu (pe_fld (pv 0) rfl) (pv 1) (fun _ _ => rfl)) pe_int (fun _ _ => rfl)))
      (pss_one (ps_ret (pe_lc (own := [("part", 3)]) (tt := tAnd (tTest (tOp (fun x y H Q => y = .non ∧ Q (.bl (!decide (x = .non))) H) (tOp (rIxT K) (tXGet Ent P w (tFld K (tVar 0) "found") (tVar 3)) (tC (.int 0))) (tC .non))) (tB (tXNin Ent P w (tVar 3) (tFld K (tVar 0) "places")))) rfl sc_rwMissing.nd (pi_tup (pv 2)) (blkOk_by (N := ["self", "key", "parts", "part"]) (sc := defScope sRwMissing) (by decide +kernel)) (fun _ _ _ _ _ => (pg_name (i := 3) sc_rwMissing.nd rfl (by first | exact Or.inl rfl | exact Or.inr rfl))) (fun _ _ _ _ _ => (pts_one (PW.pt (pw_and (pt_cmpR op_notN (pe_ix ix_tup (pe_xget Ent hu (pe_fld (pv 0) rfl) (pv 3) (fun _ _ => rfl)) pe_int (fun _ _ => rfl)) pe_non (nomark _)) (pw_and1 (pt_cmp (pc_xnotin Ent hu (pv 3) (pe_fld (pv 0) rfl)) (by rfl))))))) (fun _ _ _ _ _ => (pv 3)))))), ?_⟩
    obtain ⟨dx, fd, ha, hmap0⟩ := rw.ob
    obtain ⟨kvs, dk, pk⟩ := hmap0.mono feR_m (.same rw.same)
    obtain ⟨kpl, dpl, ppl⟩ := id rw.pl
    obtain ⟨v, hv, va, vt, vps, rfl, hva, hvt, hvps⟩ := pair_mem pk nd hmem
    refine q_set (v_ixT (v_xget (k := e) (rw_fld T ha (val_var rfl) (by simp) (rwF_found _ _ _)) (val_var rfl) dk hea hv) val_c hva (atI_nat (j := 1) rfl)) ?_
    refine s_retE (e_lcW (val_var rfl) (SqT.of hvt) fun D hD => ?_)
    refine lc_tup (xs := vps) (fun j H' => Same H H' ∧ ∃ acc, H' D = some (.lst acc) ∧ All entR H' (restJ PK (ps.take j)) acc) ⟨sm_up hD, [], upd_same, .nil⟩ (fun j H' _ p => SqT.of (p.1 _ _ hvt)) (fun j x H' hx p => ?_) (fun H' p => ?_)
    · obtain ⟨sm, acc, h1, h2⟩ := p
      obtain ⟨pe, hpe, pa, rfl, hpa⟩ := hvps.get' hx
      have hj : j < 2 := Nat.lt_of_lt_of_le (List.getElem?_eq_some_iff.mp hpe).1 hl2
      have hpk := hps pe (List.mem_of_getElem? hpe)
      obtain ⟨xfe, hxfe, exfe⟩ := List.mem_map.mp hpk
      obtain ⟨x1, x2, x3⟩ := xfe
      subst exfe
      obtain ⟨v', hv', va', vt', vps', rfl, hva', _⟩ := pair_mem pk nd hxfe
      have ha' := sm _ _ ha
      refine g_name ⟨rfl, a_andE (a_test (v_notN (v_ixT (v_xget (k := x1) (rw_fld T ha' (val_var rfl) (by simp) (rwF_found _ _ _)) (val_var rfl) (dk.mono (.same sm)) (sm _ _ hpa) hv') val_c (sm _ _ hva') (atI_nat (j := 0) rfl))) _ ?_)⟩
      rw [decide_eq_false (fun z : V.int (x2 : Nat) = V.non => by cases z)]
      refine iteT (a_bE (e_xnin (k := x1) (new1_val (val_var rfl) (sm _ _ hpa)) (fun H2 s2 => rw_fld T (s2 _ _ ha') (val_var rfl) (by simp) (rwF_places _ _ _)) (dpl.same sm).rd fun H2 s2 => ⟨_, rfl, ?_⟩))
      have et : restJ PK (ps.take (j + 1)) = restJ PK (ps.take j) ++ restJ PK [x1] := by rw [take_succ' hpe]; simp [restJ]
      by_cases hin : x1 ∈ PK
      · rw [pair_in ppl (by rw [plJ_keys]; exact hin)]
        refine iteF ⟨sm.trans s2, acc, s2 _ _ h1, ?_⟩
        rw [et]
        have : restJ PK [x1] = [] := by simp [restJ, hin]
        rw [this, List.append_nil]
        exact h2.mono keyR_m (.same s2)
      · rw [pair_out ppl (by rw [plJ_keys]; exact hin)]
        have hal : acc.length ≤ 2 := by
          rw [← h2.len]
          refine Nat.le_trans (List.length_filter_le _ _) ?_
          rw [List.length_take]; omega
        refine iteT (val_var rfl _ ⟨acc, s2 _ _ h1, big6 (by omega), sm_own (sm.trans s2) hD, _, upd_same, ?_⟩)
        rw [et]
        have : restJ PK [x1] = [x1] := by simp [restJ, hin]
        rw [this]
        have tp := Tp.lst (o := .lst (acc ++ [.ref pa])) (s2 _ _ h1)
        exact (h2.mono keyR_m ((Tp.same s2).trans tp)).snoc ⟨pa, rfl, tp _ _ (s2 _ _ (sm _ _ hpa))⟩
    · obtain ⟨sm, acc, h1, h2⟩ := p
      rw [← hvps.len, List.take_length] at h2
      exact k D acc H' sm hD h1 h2
end
end PW
end

section
set_option Elab.async false
set_option maxRecDepth 100000
set_option maxHeartbeats 4000000
set_option linter.all false
/-! Walks: Rows.add. -/
namespace PW
open PySem L2 PX PR
section
variable {P : Program} {w : World} {K : PySem.W.Frag} {mg : Str → Option Value} {base : Heap} {c : Cs}
theorem v_neg1 {σ : L2.St} {H : Hp} : Val (tUn (rU fun i => V.int (-i)) (tC (.int 1))) σ H (.int (-1)) := fun Q q => ⟨1, rfl, q⟩
theorem All.subset {α : Type} {R : Rp α} {H : Hp} : True := trivial
theorem q_extend {σ : L2.St} {H : Hp} {to te : TE} {D : Ends} {l b : Addr} {xs zs : List V} (ho : Val to σ H (.ref l)) (hl : H l = some (.lst xs)) (he : Val te σ H (.ref b)) (hb : H b = some (.lst zs)) (hz : xs.length + zs.length ≤ 100000) (q : D.nx σ (upd H l (.lst (xs ++ zs)))) :
    tDrop (tBM K "list" rExtend to (tCons te tNil)) D σ H := ho _ ⟨.inl ⟨rfl, _, SqL.of hl⟩, by
  show te σ H fun x H1 => rExtend (.ref l) [x] H1 fun _ H2 => D.nx σ H2
  exact he _ ⟨l, b, xs, zs, rfl, rfl, hl, hb, Nat.le_trans hz (by decide), q⟩⟩
theorem mem_idx {KK : List FE} {e : Ent} (h : e ∈ keysE KK) : ∃ (j i : Nat) (ps : List Ent), KK[j]? = some (e, i, ps) := by
  obtain ⟨x, hx, rfl⟩ := List.mem_map.mp h
  obtain ⟨j, hj⟩ := List.mem_iff_getElem?.mp hx
  exact ⟨j, x.2.1, x.2.2, hj⟩
theorem takings_len {M : Mach} {mk : Int → Bool} : ∀ {rows : List RowJ} {es es' : List Ent}, takingsJ M mk rows es = some es' → es'.length = es.length + rows.length
  | [], es, es', h => by simp only [takingsJ] at h; cases h; rfl
  | r :: rs, es, es', h => by
    simp only [takingsJ] at h
    split at h
    · cases h
    · rename_i e1 h1
      have := takings_len h
      have := readJ_len h1
      rw [List.length_cons]
      omega
theorem rest_nil {PK ps : List Ent} (h : restJ PK ps = []) : ∀ p ∈ ps, p ∈ PK := by
  intro p hp
  refine Classical.byContradiction fun hn => ?_
  have : p ∈ restJ PK ps := List.mem_filter.mpr ⟨hp, by simpa using hn⟩
  rw [h] at this
  cases this
theorem rest_mem {PK ps : List Ent} {p : Ent} (h : p ∈ restJ PK ps) : p ∈ ps ∧ p ∉ PK := by
  obtain ⟨h1, h2⟩ := List.mem_filter.mp h
  exact ⟨h1, by simpa using h2⟩
def spRwAdd (P : Program) (w : World) (c : Cs) : Sp := fun vs H Q _ => ∃ (M : Mach) (mk : Int → Bool) (H0 : Hp) (KK : List FE) (PK : List Ent) (rows : List RowJ) (a pd rl : Addr) (kv : V) (e : Ent), vs = [.ref a, kv, .bl false] ∧ M.Ok ∧ RwM P w c H0 H a pd rl KK PK rows ∧ TakeOk M mk KK ∧ RowsOk M mk KK PK rows ∧ KK.length ≤ 96 ∧ entR H e kv ∧ e ∈ keysE KK ∧
  ∀ H' PK' rows', RwM P w c H0 H' a pd rl KK PK' rows' → RowsOk M mk KK PK' rows' → PR.Ext PK PK' → e ∈ PK' → Fr [pd, rl] H H' → Tp H H' → Q .non H'
theorem sc_rwAdd : FnScope ["self", "key", "with_items", "pending", "last", "step", "parts", "before", "written", "part"] ["self", "key", "with_items"] (defScope sRwAdd) := ⟨rfl, rfl, rfl, by decide +kernel, rfl, by decide +kernel, by decide +kernel⟩
theorem ok_rwAdd (T : Txt K mg c) {f : Addr} {fd : FuncData} (F : Fun K "add" "Rows.add" sRwAdd f fd) : FnOk P w K mg base CX0 2 f fd ["self", "key", "with_items"] (spRwAdd P w c) := by
  obtain ⟨f1, fd1, F1, b1, m1⟩ := T.rwMissing
  have G1 : FnOk P w K mg base CX0 1 f1 fd1 ["self", "key"] (spRwMissing P w c) := ok_rwMissing T F1
  refine F.ok sc_rwAdd (fun vs H Q E h => ?_) (fun cdv A outer s H vs Q E hr h => ?_)
  · obtain ⟨M, mk, H0, KK, PK, rows, a, pd, rl, kv, e, rfl, _⟩ := h
    rfl
  · obtain ⟨M, mk, H0, KK, PK, rows, a, pd, rl, kv, e, rfl, ok, rw0, tko, ro0, hK, ⟨ea, rfl, hea⟩, hek, k⟩ := h
    have hu := hu_of hr
    refine ⟨_, (pss_cons (ps_set (i := 3) sc_rwAdd.nd rfl (by first | exact Or.inl rfl | exact Or.inr rfl) (pe_lst (pa_cons (pv 1) pa_nil)))
      (pss_one (ps_while PassesOwn.never (pt_cmpR op_gt (pe_callB call_len_seq (by rfl) T.b PySem.boot_len (pa_cons (pv 3) pa_nil)) pe_int (nomark _))
          (pss_cons (ps_set (i := 4) sc_rwAdd.nd rfl (by first | exact Or.inl rfl | exact Or.inr rfl) (pe_ix ix_list (pv 3) (pe_un un_neg pe_int) (fun _ _ => rfl)))
            (pss_cons (ps_asg (pe_xget Ent hu (pe_fld (pv 0) rfl) (pv 4) (fun _ _ => rfl)) (pg_tup rfl (pgs_cons (pg_name (i := 5) sc_rwAdd.nd rfl (by first | exact Or.inl rfl | exact Or.inr rfl)) (pgs_cons (pg_name (i := 6) sc_rwAdd.nd rfl (by first | exact Or.inl rfl | exact Or.inr rfl)) pgs_nil))))
            (pss_cons (ps_set (i := 7) sc_rwAdd.nd rfl (by first | exact Or.inl rfl | exact Or.inr rfl) (pe_meth (pv 0) T.rw.cl m1 G1 hr b1 .nil pass0 (pa_cons (pv 4) pa_nil)))
            (pss_one (ps_if (PW.pt (pw_or (pt_cmpR op_isN (pv 5) pe_non (nomark _)) (pw_or1 (pt_cmp (pc_xin Ent hu (pv 4) (pe_fld (pv 0) rfl)) (by rfl)))))
                (pss_one (ps_expr (pe_bm0 PySem.F.plainAttrs_list PySem.F.slot_list_pop PySem.F.type_list_pop mt_pop (pv 3))))
                (pss_one (ps_if (pt_cmpR op_gt (pe_callB call_len_seq (by rfl) T.b PySem.boot_len (pa_cons (pv 7) pa_nil)) pe_int (nomark _))
                    (pss_one (ps_expr (pe_bm PySem.F.plainAttrs_list PySem.F.slot_list_extend PySem.F.type_list_extend mt_extend (pv 3) (pa_cons (pv 7) pa_nil))))
                    (pss_cons (ps_if (pt_val (pv 2))
                          (pss_one ps_never)
                          (pss_one (ps_set (i := 8) sc_rwAdd.nd rfl (by first | exact Or.inl rfl | exact Or.inr rfl) (pe_callTy call_tuple_of (by rfl) T.b (by decide +kernel) (pa_cons (pe_lc (own := [("part", 9)]) (tt := tYes) (te := tXGet Ent P w (tFld K (tVar 0) "places") (tVar 9)) rfl sc_rwAdd.nd (pi_tup (pv 6)) (blkOk_by (N := ["self", "key", "with_items", "pending", "last", "step", "parts", "before", "written", "part"]) (sc := defScope sRwAdd) (by decide +kernel)) (fun _ _ _ _ _ => (pg_name (i := 9) sc_rwAdd.nd rfl (by first | exact Or.inl rfl | exact Or.inr rfl))) (fun _ _ _ _ _ => pts_nil) (fun _ _ _ _ _ => (pe_xget Ent hu (pe_fld (pv 0) rfl) (pv 9) (fun _ _ => rfl)))) pa_nil)))))
                      (pss_cons (ps_xput Ent hu (pe_fld (pv 0) rfl) (pv 4) (pe_callB call_len_seq (by rfl) T.b PySem.boot_len (pa_cons (pe_fld (pv 0) rfl) pa_nil)) rfl)
                      (pss_cons (ps_expr (pe_bm PySem.F.plainAttrs_list PySem.F.slot_list_append PySem.F.type_list_append mt_append (pe_fld (pv 0) rfl) (pa_cons (pe_tup (pa_cons (pv 5) (pa_cons (pv 8) pa_nil))) pa_nil)))
                      (pss_one (ps_expr (pe_bm0 PySem.F.plainAttrs_list PySem.F.slot_list_pop PySem.F.type_list_pop mt_pop (pv 3))))))))))))))))), ?_⟩
    refine q_asgL (va_cons (val_var rfl) va_nil) fun pl hpl => ?_
    have s1 : Same H (upd H pl (.lst [.ref ea])) := sm_up hpl
    have npd : pl ≠ pd := fun z => by
      obtain ⟨φ, q⟩ := rw0.pl.ext
      rw [← z, hpl] at q; cases q
    have nrl : pl ≠ rl := fun z => by
      obtain ⟨ys, q, _⟩ := rw0.rows'
      rw [← z, hpl] at q; cases q
    have hpl0 : H0 pl = none := rw0.same.free hpl
    have hord : ∀ (PK : List Ent) (pend : List Ent), (∀ x ∈ pend, x ∈ keysE KK) → pend.length ≤ 1 → muJ KK PK pend ≤ 30000 := fun PK pend hp hl => by
      have h1 := top_le KK PK pend hp
      unfold muJ
      have h2 : (3 * KK.length + 1) * (KK.length - PK.length) ≤ 289 * 96 := Nat.mul_le_mul (by omega) (by omega)
      omega
    refine s_whileE (fun μ σ H' => ∃ (PK' : List Ent) (rows' : List RowJ) (pend : List Ent) (ys : List V) (o4 o5 o6 o7 o8 o9 : Option V), σ = [some (.ref a), some (.ref ea), some (.bl false), some (.ref pl), o4, o5, o6, o7, o8, o9] ∧ RwM P w c H0 H' a pd rl KK PK' rows' ∧ RowsOk M mk KK PK' rows' ∧ PR.Ext PK PK' ∧ (∀ x ∈ pend, x ∈ keysE KK) ∧ (e ∈ PK' ∨ e ∈ pend) ∧ H' pl = some (.lst ys) ∧ All entR H' pend ys ∧ Fr [pd, rl] H H' ∧ Tp H H' ∧ μ = muJ KK PK' pend ∧ μ ≤ 30000)
      ⟨_, PK, rows, [e], _, _, _, _, _, _, _, rfl, rw0.up s1, ro0, PR.Ext.refl _, fun x hx => (by simp at hx; subst hx; exact hek), .inr (by simp), upd_same, .cons ⟨ea, rfl, s1 _ _ hea⟩ .nil, .same s1, .same s1, rfl, hord _ _ (fun x hx => by simp at hx; subst hx; exact hek) (Nat.le_refl _)⟩ ?_
    rintro μ σ H1 ⟨PK1, rows1, pend, ys, o4, o5, o6, o7, o8, o9, rfl, rw1, ro1, ext1, hpend, hee, hpl1, hall, fr1, tp1, hμ, hμ2⟩
    refine a_test (v_gt (v_len (val_var rfl) (.inl (SqL.of hpl1))) val_c) _ ?_
    rcases List.eq_nil_or_concat pend with rfl | ⟨pend', x, hpe⟩
    · cases hall
      exact iteF (k _ _ _ rw1 ro1 ext1 (hee.elim id fun z => by cases z) fr1 tp1)
    · rw [List.concat_eq_append] at hpe
      subst hpe
      obtain ⟨ys', y, rfl, hall', xa, rfl, hxa⟩ := All.unsnoc hall
      have hlen : decide ((0 : Int) < ((ys' ++ [V.ref xa]).length : Nat)) = true := decide_eq_true (by rw [List.length_append, List.length_singleton]; omega)
      rw [hlen]
      refine iteT ⟨_, fun _ _ h => h, ?_⟩
      have hxk : x ∈ keysE KK := hpend x (by simp)
      have hpk' : ∀ y ∈ pend', y ∈ keysE KK := fun y hy => hpend y (List.mem_append_left _ hy)
      obtain ⟨j, i, ps, hj⟩ := mem_idx hxk
      have hxm := List.mem_of_getElem? hj
      obtain ⟨st, sg, fg, hst, hch, _, hpso⟩ := tko.der j x i ps hj
      have hpsk : ∀ p ∈ ps, p ∈ keysE KK := fun p hp => let ⟨j', _, h⟩ := hpso p hp; List.mem_of_getElem? h
      have hps2 : ps.length ≤ 2 := by
        rw [chainE_len hch]
        exact (ok.fit st (List.mem_of_getElem? hst)).2.2.2.2.2.2.1
      obtain ⟨dx, fd, ha1, hmap0⟩ := rw1.ob
      obtain ⟨kvs, dk, pk⟩ := hmap0.mono feR_m (.same rw1.same)
      obtain ⟨kpl, dpl, ppl⟩ := id rw1.pl
      obtain ⟨v, hv, va, vt, vps, rfl, hva, hvt, hvps⟩ := pair_mem pk tko.nd hxm
      -- last = pending[-1]
      refine q_set (v_ixL (val_var rfl) v_neg1 hpl1 (atI_last _ _)) ?_
      refine v_xget (k := x) (rw_fld T ha1 (val_var rfl) (by simp) (rwF_found _ _ _)) (val_var rfl) dk hxa hv _ (g_two hva ?_)
      refine q_asg (e_meth (val_var rfl) ha1 (rwF_no _ _ _ (by decide +kernel) (by decide +kernel) (by decide +kernel)) (va_cons (val_var rfl) va_nil) ⟨H0, KK, PK1, ps, rows1, a, pd, rl, .ref xa, x, i, rfl, rw1, tko.nd, hpsk, ⟨xa, rfl, hxa⟩, hxm, hps2, fun bl bys H2 s2 hbl hbl2 hbys => ?_⟩)
      have rw2 := rw1.up s2
      have ha2 := s2 _ _ ha1
      have hpl2 := s2 _ _ hpl1
      have nbp : bl ≠ pl := fun z => by rw [z, hpl1] at hbl; cases hbl
      refine s_ifE (a_orE (a_test (v_isN (val_var rfl)) _ ?_))
      rw [decide_eq_false (fun z : V.int (i : Nat) = V.non => by cases z)]
      refine iteF (a_bE (e_xin (k := x) (new1_val (val_var rfl) (s2 _ _ hxa)) (fun H3 s3 => rw_fld T (s3 _ _ ha2) (val_var rfl) (by simp) (rwF_places _ _ _)) (dpl.same s2).rd fun H3 s3 => ⟨_, rfl, ?_⟩))
      have rw3 := rw2.up s3
      have hpl3 := s3 _ _ hpl2
      have s13 := s2.trans s3
      have popped : ∀ {PK' : List Ent} {ys : List V} {H4 : Hp}, (e ∈ PK1 ∨ e ∈ pend' ++ [x]) → (∀ z ∈ PK1, z ∈ PK') → x ∈ PK' → (e ∈ PK' ∨ e ∈ pend') := fun h hs hx => by
        rcases h with h | h
        · exact .inl (hs _ h)
        · rcases List.mem_append.mp h with h | h
          · exact .inr h
          · have : e = x := by simpa using h
            exact .inl (by rw [this]; exact hx)
      by_cases hin : x ∈ PK1
      · rw [pair_in ppl (by rw [plJ_keys]; exact hin)]
        refine iteT (s_drop (e_pop (val_var rfl) hpl3 ?_))
        have tp : Tp H3 (upd H3 pl (.lst ys')) := .lst hpl3
        have hlt := mu_pop (PK := PK1) hpk' hin
        refine ⟨_, by rw [hμ]; exact hlt, PK1, rows1, pend', ys', _, _, _, _, _, _, rfl, ?_, ro1, ext1, hpk', popped (ys := ys') (H4 := H3) hee (fun _ z => z) hin, upd_same, hall'.mono keyR_m ((Tp.same s13).trans tp), ?_, (tp1.trans (.same s13)).trans tp, rfl, by omega⟩
        · obtain ⟨dx3, fd3, q1, q2⟩ := rw3.ob
          obtain ⟨zs, q3, q4⟩ := rw3.rows'
          refine ⟨sm_own rw3.same hpl0, ⟨dx3, fd3, ?_, q2⟩, rw3.pl.stay intR_m (upd_ne npd.symm) tp, ⟨zs, by rw [upd_ne nrl.symm]; exact q3, q4.mono rowR_m tp⟩, rw3.fpd, rw3.frl⟩
          rw [upd_ne (fun z => by rw [z, hpl3] at q1; cases q1)]
          exact q1
        · exact fun b u q nb => by rw [upd_ne (fun z => by rw [z, hpl] at q; cases q)]; exact s13 _ _ (fr1 _ _ q nb)
      · rw [pair_out ppl (by rw [plJ_keys]; exact hin)]
        refine iteF ?_
        have hbl3 := s3 _ _ hbl2
        have hbys3 := hbys.mono keyR_m (.same s3)
        refine s_ifE (a_test (v_gt (v_len (val_var rfl) (.inl (SqL.of hbl3))) val_c) _ ?_)
        by_cases hrest : restJ PK1 ps = []
        · have hb0 : bys = [] := by
            rw [hrest] at hbys
            cases hbys; rfl
          subst hb0
          refine iteF ?_
          have hpsin := rest_nil hrest
          refine q_ifE (a_val (val_var rfl) _ (iteF ?_))
          have ha3 := s3 _ _ ha2
          have hvt3 := s13 _ _ hvt
          -- written
          refine s_asg (tcons_E (e_lcT intR intR_m (ps.map fun p => ((PK1.idxOf p : Nat) : Int)) (val_var rfl) hvt3 (by rw [List.length_map]; exact hvps.len) (Nat.le_trans (Nat.le_of_eq hvps.len.symm) (by show ps.length ≤ 100000; omega)) (fun n3 x3 b3 H' Q' hx3 hb3 sm3 kq => ?_) fun wd H4 wacc s4 hwd hwd4 hwacc => ?_))
          · obtain ⟨p3, hp3, pa3, rfl, hpa3⟩ := hvps.get' hx3
            rw [List.getElem?_map, hp3] at hb3
            cases hb3
            have hin3 := hpsin p3 (List.mem_of_getElem? hp3)
            obtain ⟨v3, hv3, rfl⟩ := pair_mem ppl (by rw [plJ_keys]; exact ro1.nd) (plJ_mem hin3)
            refine g_name ⟨rfl, v_xget (k := p3) (rw_fld T (sm3 _ _ ha3) (val_var rfl) (by simp) (rwF_places _ _ _)) (val_var rfl) ((dpl.same (s13.trans sm3)).rd) ((s13.trans sm3) _ _ hpa3) hv3 _ (kq _ _ (Same.refl _) rfl)⟩
          · have ew := all_ints hwacc
            subst ew
            refine ⟨wd, _, rfl, .inl ⟨SqL.of hwd4, fun wt hwt => ?_⟩⟩
            have s5 : Same H3 (upd H4 wt (.tup ((ps.map fun p => ((PK1.idxOf p : Nat) : Int)).map V.int))) := sm_new s4 hwt
            have hwt5 : (upd H4 wt (.tup ((ps.map fun p => ((PK1.idxOf p : Nat) : Int)).map V.int))) wt = some (.tup ((ps.map fun p => ((PK1.idxOf p : Nat) : Int)).map V.int)) := upd_same
            show tSeq _ _ _ _ (upd H4 wt (.tup ((ps.map fun p => ((PK1.idxOf p : Nat) : Int)).map V.int)))
            generalize (upd H4 wt (.tup ((ps.map fun p => ((PK1.idxOf p : Nat) : Int)).map V.int))) = H5 at s5 hwt5
            have rw5 := rw3.up s5
            have ha5 := s5 _ _ ha3
            have hpl5 := s5 _ _ hpl3
            obtain ⟨zs, hzs, hzs2⟩ := id rw5.rows'
            have hrl : rows1.length = PK1.length := by
              have := takings_len ro1.read
              rw [List.length_nil] at this
              omega
            have hPKl : PK1.length ≤ 96 := by
              have := nodup_le ro1.nd ro1.sub
              rw [keysE_len] at this
              omega
            -- places[last] = len(rows)
            refine q_xput (k := x) (v_len (rw_fld T ha5 (val_var rfl) (by simp) (rwF_rows _ _ _)) (.inl (SqL.of hzs))) (rw_fld T ha5 (val_var rfl) (by simp) (rwF_places _ _ _)) (new1_val (val_var rfl) ((s13.trans s5) _ _ hxa)) (dpl.same (s13.trans s5)) (by rw [MapM.len ppl]; unfold plJ; rw [List.length_mapIdx]; omega) fun H6 H7 s6 h7 => ?_
            have s16 := (s13.trans s5).trans s6
            obtain ⟨dm7, fr7, lo7⟩ := DXm.put h7 (dpl.same s16)
            rw [← hzs2.len, hrl] at h7
            have map7 : MapM intR P w H7 pd (plJ PK1 ++ [(x, (PK1.length : Int))]) := MapM.add intR_m (rw1.pl.same intR_m s16) (by rw [plJ_keys]; exact hin) rfl (Paired.mapP ppl fun _ _ z => ⟨z.1, z.2⟩) (dpl.same s16) h7
            have ha7 := lo7.ins (s6 _ _ ha5)
            have nrp : rl ≠ pd := fun z => by
              obtain ⟨φ, q⟩ := rw5.pl.ext
              rw [← z, hzs] at q; cases q
            have hzs7 : H7 rl = some (.lst zs) := fr7 _ _ (s6 _ _ hzs) fun z => nrp (List.mem_singleton.mp z)
            have hpl7 : H7 pl = some (.lst (ys' ++ [V.ref xa])) := fr7 _ _ (s6 _ _ hpl5) fun z => npd (List.mem_singleton.mp z)
            -- rows.append((step, written))
            refine q_append (rw_fld T ha7 (val_var rfl) (by simp) (rwF_rows _ _ _)) hzs7 (t_tup (va_cons (val_var rfl) (va_cons (val_var rfl) va_nil)) fun rt hrt => ⟨zs, by rw [upd_ne (ne_of_none hzs7 hrt)]; exact hzs7, big6 (by rw [← hzs2.len, hrl]; omega), ?_⟩)
            have s8 : Same H7 (upd H7 rt (.tup [.int (i : Nat), .ref wt])) := sm_up hrt
            have hrt8 : (upd H7 rt (.tup [.int (i : Nat), .ref wt])) rt = some (.tup [.int (i : Nat), .ref wt]) := upd_same
            have hzs8 := s8 _ _ hzs7
            have hpl8 := s8 _ _ hpl7
            show tDrop _ _ _ (upd (upd H7 rt (.tup [.int (i : Nat), .ref wt])) rl (.lst (zs ++ [V.ref rt])))
            generalize (upd H7 rt (.tup [.int (i : Nat), .ref wt])) = H8 at s8 hrt8 hzs8 hpl8
            have tp9 : Tp H8 (upd H8 rl (.lst (zs ++ [V.ref rt]))) := .lst hzs8
            have hpl9 : (upd H8 rl (.lst (zs ++ [V.ref rt]))) pl = some (.lst (ys' ++ [V.ref xa])) := by rw [upd_ne nrl]; exact hpl8
            have tp79 : Tp H1 (upd H8 rl (.lst (zs ++ [V.ref rt]))) := (((Tp.same s16).trans lo7.tp).trans (.same s8)).trans tp9
            refine s_drop (e_pop (val_var rfl) hpl9 ?_)
            have tp10 : Tp (upd H8 rl (.lst (zs ++ [V.ref rt]))) (upd (upd H8 rl (.lst (zs ++ [V.ref rt]))) pl (.lst ys')) := .lst hpl9
            have ro2 : RowsOk M mk KK (PK1 ++ [x]) (rows1 ++ [((i : Int), ps.map fun p => ((PK1.idxOf p : Nat) : Int))]) := ro1.add tko hj hin hpsin
            have hlt := mu_put (PK := PK1) (e := x) hpk' (by
              have := nodup_le ro2.nd ro2.sub
              rw [List.length_append, List.length_singleton, keysE_len] at this
              omega)
            refine ⟨_, by rw [hμ]; exact hlt, PK1 ++ [x], _, pend', ys', _, _, _, _, _, _, rfl, ⟨?_, ⟨dx, fd, ?_, hmap0⟩, ?_, ⟨zs ++ [V.ref rt], ?_, ?_⟩, rw1.fpd, rw1.frl⟩, ro2, ext1.trans ⟨[x], rfl⟩, hpk', popped (ys := ys') (H4 := H3) hee (fun _ z => List.mem_append_left _ z) (by simp), upd_same, hall'.mono keyR_m (tp79.trans tp10), ?_, (tp1.trans tp79).trans tp10, rfl, by omega⟩
            · exact sm_own (sm_own ((fr7.base (rw5.same.trans s6) fun b z => by rw [List.mem_singleton.mp z]; exact rw1.fpd).trans s8) rw1.frl) hpl0
            · have h8 := s8 _ _ ha7
              have nal : a ≠ rl := fun z => by rw [z, hzs8] at h8; cases h8
              have nap : a ≠ pl := fun z => by rw [z, hpl8] at h8; cases h8
              rw [upd_ne nap, upd_ne nal]; exact h8
            · rw [plJ_snoc]
              exact ((map7.same intR_m s8).stay intR_m (upd_ne nrp.symm) tp9).stay intR_m (upd_ne npd.symm) tp10
            · rw [upd_ne nrl.symm, upd_same]
            · have := (hzs2.mono rowR_m ((((Tp.same s6).trans lo7.tp).trans (.same s8)).trans (tp9.trans tp10)))
              refine this.snoc ⟨rt, _, _, rfl, tp10 _ _ (tp9 _ _ hrt8), rfl, wt, _, rfl, tp10 _ _ (tp9 _ _ (s8 _ _ (lo7.tup (s6 _ _ hwt5)))), ints_all _⟩
            · intro b u q nb
              have nb1 : b ≠ pd := fun z => nb (by rw [z]; simp)
              have nb2 : b ≠ rl := fun z => nb (by rw [z]; simp)
              rw [upd_ne (fun z => by rw [z, hpl] at q; cases q), upd_ne nb2]
              exact s8 _ _ (fr7 _ _ (s16 _ _ (fr1 _ _ q nb)) fun z => nb1 (List.mem_singleton.mp z))
        · have hbne : bys ≠ [] := fun z => by
            rw [z] at hbys
            cases hr : restJ PK1 ps with
            | nil => exact hrest hr
            | cons a b => rw [hr] at hbys; cases hbys
          have hbpos : decide ((0 : Int) < (bys.length : Nat)) = true := decide_eq_true (by have := List.length_pos_iff.mpr hbne; omega)
          rw [hbpos]
          have hpendl : pend'.length + 1 ≤ 30000 := by
            unfold muJ at hμ
            rw [List.length_append, List.length_singleton] at hμ
            omega
          have hrl2 : (restJ PK1 ps).length ≤ 2 := Nat.le_trans (List.length_filter_le _ _) hps2
          refine iteT (q_extend (val_var rfl) hpl3 (val_var rfl) hbl3 (by rw [List.length_append, List.length_singleton, ← hall'.len, ← hbys.len]; omega) ?_)
          have tp : Tp H3 (upd H3 pl (.lst (ys' ++ [V.ref xa] ++ bys))) := .lst hpl3
          obtain ⟨lastp, hlast⟩ : ∃ p, (restJ PK1 ps).getLast? = some p := by
            cases hr : (restJ PK1 ps).getLast? with
            | none => exact absurd (List.getLast?_eq_none_iff.mp hr) hrest
            | some p => exact ⟨p, rfl⟩
          obtain ⟨hlm, hln⟩ := rest_mem (List.mem_of_getLast? hlast)
          obtain ⟨j', hj'1, hj'2⟩ := hpso lastp hlm
          have hjk : (keysE KK)[j]? = some x := by unfold keysE; rw [List.getElem?_map, hj]; rfl
          have hlt := mu_push (K := KK) (PK := PK1) (pend := pend') (ps := restJ PK1 ps) (e := x) hin hrl2 hlast hln (ord_lt tko.nd hjk hj'2 hj'1)
          refine ⟨_, by rw [hμ]; exact hlt, PK1, rows1, pend' ++ [x] ++ restJ PK1 ps, _, _, _, _, _, _, _, rfl, ?_, ro1, ext1, fun y hy => ?_, ?_, upd_same, ?_, ?_, (tp1.trans (.same s13)).trans tp, rfl, by omega⟩
          · obtain ⟨dx3, fd3, q1, q2⟩ := rw3.ob
            obtain ⟨zs, q3, q4⟩ := rw3.rows'
            refine ⟨sm_own rw3.same hpl0, ⟨dx3, fd3, ?_, q2⟩, rw3.pl.stay intR_m (upd_ne npd.symm) tp, ⟨zs, by rw [upd_ne nrl.symm]; exact q3, q4.mono rowR_m tp⟩, rw3.fpd, rw3.frl⟩
            rw [upd_ne (fun z => by rw [z, hpl3] at q1; cases q1)]
            exact q1
          · rcases List.mem_append.mp hy with hy | hy
            · exact hpend y hy
            · exact hpsk y (rest_mem hy).1
          · exact hee.imp id fun z => List.mem_append_left _ z
          · exact All.app ((hall.mono keyR_m ((Tp.same s13).trans tp))) (hbys3.mono keyR_m tp)
          · exact fun b u q nb => by rw [upd_ne (fun z => by rw [z, hpl] at q; cases q)]; exact s13 _ _ (fr1 _ _ q nb)
end
end PW
end

section
set_option Elab.async false
set_option maxRecDepth 100000
set_option maxHeartbeats 4000000
set_option linter.all false
/-! Walks: told_moves. -/
namespace PW
open PySem L2 PX PR
section
variable {P : Program} {w : World} {K : PySem.W.Frag} {mg : Str → Option Value} {base : Heap} {c : Cs}
theorem idx_ext {PK PK' : List Ent} (h : PR.Ext PK PK') {e : Ent} (he : e ∈ PK) : PK'.idxOf e = PK.idxOf e := by
  obtain ⟨r, rfl⟩ := h
  rw [List.idxOf_append, if_pos he]
theorem mem_ext {PK PK' : List Ent} (h : PR.Ext PK PK') {e : Ent} (he : e ∈ PK) : e ∈ PK' := by
  obtain ⟨r, rfl⟩ := h
  exact List.mem_append_left _ he
def PartsIn (PK : List Ent) (ms : List Mov) : Prop := ∀ mv ∈ ms, ∀ e, mv.p = some e → e ∈ PK
theorem told_ext {PK PK' : List Ent} (h : PR.Ext PK PK') {ms : List Mov} (hp : PartsIn PK ms) : ms.map (told PK') = ms.map (told PK) := by
  refine List.map_congr_left fun mv hm => ?_
  unfold told
  cases e : mv.p with
  | none => rfl
  | some x =>
    have := idx_ext h (hp mv hm x e)
    simp [this]
theorem ids_ext {PK PK' : List Ent} (h : PR.Ext PK PK') {es : List Ent} (hp : ∀ e ∈ es, e ∈ PK) : (es.map fun e => ((PK'.idxOf e : Nat) : Int)) = es.map fun e => ((PK.idxOf e : Nat) : Int) :=
  List.map_congr_left fun e he => by rw [idx_ext h (hp e he)]
/-- places[e] -/
theorem pl_get {H : Hp} {pd : Addr} {PK : List Ent} (nd : PK.Nodup) (m : MapM intR P w H pd (plJ PK)) {e : Ent} (he : e ∈ PK) : ∃ kvs : List (Ent × V), DX P w H pd kvs ∧ valV kvs e = some (.int ((PK.idxOf e : Nat) : Int)) := by
  obtain ⟨kvs, d, p⟩ := m
  obtain ⟨v, hv, rfl⟩ := pair_mem p (by rw [plJ_keys]; exact nd) (plJ_mem he)
  exact ⟨kvs, d.rd, hv⟩
def spTold (P : Program) (w : World) (c : Cs) : Sp := fun vs H Q _ => ∃ (M : Mach) (mk : Int → Bool) (H0 : Hp) (KK : List FE) (PK : List Ent) (rows : List RowJ) (a pd rl la : Addr) (ms : List Mov) (xs : List V), vs = [.ref a, .ref la] ∧ M.Ok ∧ RwM P w c H0 H a pd rl KK PK rows ∧ TakeOk M mk KK ∧ RowsOk M mk KK PK rows ∧ KK.length ≤ 96 ∧ H la = some (.lst xs) ∧ All movR H ms xs ∧ la ≠ rl ∧ ms.length ≤ 1000 ∧ PartsIn (keysE KK) ms ∧
  ∀ v H' PK' rows', RwM P w c H0 H' a pd rl KK PK' rows' → RowsOk M mk KK PK' rows' → PR.Ext PK PK' → PartsIn PK' ms → tupR mvR H' (ms.map (told PK')) v → Fr [pd, rl] H H' → Tp H H' → Q v H'
theorem sc_told : FnScope ["rows", "moves", "told", "move", "part"] ["rows", "moves"] (defScope sToldMoves) := ⟨rfl, rfl, rfl, by decide +kernel, rfl, by decide +kernel, by decide +kernel⟩
theorem ok_told (T : Txt K mg c) {f : Addr} {fd : FuncData} (F : Fun K "told_moves" "told_moves" sToldMoves f fd) : FnOk P w K mg base CX0 3 f fd ["rows", "moves"] (spTold P w c) := by
  obtain ⟨f1, fd1, F1, b1, m1⟩ := T.rwAdd
  have G1 : FnOk P w K mg base CX0 2 f1 fd1 ["self", "key", "with_items"] (spRwAdd P w c) := ok_rwAdd T F1
  refine F.ok sc_told (fun vs H Q E h => ?_) (fun cdv A outer s H vs Q E hr h => ?_)
  · obtain ⟨M, mk, H0, KK, PK, rows, a, pd, rl, la, ms, xs, rfl, _⟩ := h
    rfl
  · obtain ⟨M, mk, H0, KK, PK, rows, a, pd, rl, la, ms, xs, rfl, ok, rw0, tko, ro0, hK, hla, hxs, nlr, hml, hpi, k⟩ := h
    have hu := hu_of hr
    refine ⟨_, (pss_cons (ps_set (i := 2) sc_told.nd rfl (by first | exact Or.inl rfl | exact Or.inr rfl) (pe_lst pa_nil))
      (pss_cons (ps_for PassesOwn.never rfl (pi_list (pv 1)) (pg_name (i := 3) sc_told.nd rfl (by first | exact Or.inl rfl | exact Or.inr rfl))
          (pss_cons (ps_set (i := 4) sc_told.nd rfl (by first | exact Or.inl rfl | exact Or.inr rfl) pe_non)
            (pss_cons (ps_if (pt_cmpR op_notN (pe_ix ix_tup (pv 3) pe_int (fun _ _ => rfl)) pe_non (nomark _))
                (pss_cons (ps_expr (pe_meth (pv 0) T.rw.cl m1 G1 hr b1 .nil pass0 (pa_cons (pe_ix ix_tup (pv 3) pe_int (fun _ _ => rfl)) (pa_cons pe_bl pa_nil))))
                  (pss_one (ps_set (i := 4) sc_told.nd rfl (by first | exact Or.inl rfl | exact Or.inr rfl) (pe_xget Ent hu (pe_fld (pv 0) rfl) (pe_ix ix_tup (pv 3) pe_int (fun _ _ => rfl)) (fun _ _ => rfl)))))
                pss_nil)
            (pss_one (ps_expr (pe_bm PySem.F.plainAttrs_list PySem.F.slot_list_append PySem.F.type_list_append mt_append (pv 2) (pa_cons (pe_tup (pa_cons (pe_ix ix_tup (pv 3) pe_int (fun _ _ => rfl)) (pa_cons (pv 4) pa_nil))) pa_nil)))))))
      (pss_one (ps_ret (pe_callTy call_tuple_of (by rfl) T.b (by decide +kernel) (pa_cons (pv 2) pa_nil)))))), ?_⟩
    refine q_asgL va_nil fun tl htl => ?_
    have s1 : Same H (upd H tl (.lst [])) := sm_up htl
    have ntl : la ≠ tl := ne_of_none hla htl
    have nlp : la ≠ pd := fun z => by
      obtain ⟨φ, q⟩ := rw0.pl.ext
      rw [← z, hla] at q; cases q
    have ntp : tl ≠ pd := fun z => by
      obtain ⟨φ, q⟩ := rw0.pl.ext
      rw [← z, htl] at q; cases q
    have ntr : tl ≠ rl := fun z => by
      obtain ⟨ys, q, _⟩ := rw0.rows'
      rw [← z, htl] at q; cases q
    have htl0 : H0 tl = none := rw0.same.free htl
    refine q_list (xs := xs) (val_var rfl) (SqL.of (s1 _ _ hla)) (fun i σ H' => ∃ (PK' : List Ent) (rows' : List RowJ) (acc : List V) (o3 o4 : Option V), σ = [some (.ref a), some (.ref la), some (.ref tl), o3, o4] ∧ RwM P w c H0 H' a pd rl KK PK' rows' ∧ RowsOk M mk KK PK' rows' ∧ PR.Ext PK PK' ∧ PartsIn PK' (ms.take i) ∧ H' tl = some (.lst acc) ∧ All mvR H' ((ms.take i).map (told PK')) acc ∧ H' la = some (.lst xs) ∧ Fr [pd, rl] H H' ∧ Tp H H')
      ⟨PK, rows, [], _, _, rfl, rw0.up s1, ro0, PR.Ext.refl _, (fun mv hm => by cases hm), upd_same, .nil, s1 _ _ hla, .same s1, .same s1⟩ (fun i σ H' p => SqL.of (let ⟨_, _, _, _, _, _, _, _, _, _, _, _, h, _⟩ := p; h)) ?_ ?_
    · rintro i x σ H2 hx ⟨PK2, rows2, acc, o3, o4, rfl, rw2, ro2, ext2, pi2, hacc, hall, hla2, fr2, tp2⟩
      obtain ⟨mv, hmv, xa, x0, x1, rfl, hxa, hx0, hx1⟩ := hxs.get' hx
      have hxa2 := tp2 _ _ hxa
      have hx1' : optR entR H2 mv.p x1 := (optR_m keyR_m).mono tp2 hx1
      have hi := (List.getElem?_eq_some_iff.mp hmv).1
      have hal : acc.length ≤ 1000 := by
        rw [← hall.len, List.length_map, List.length_take]; omega
      refine g_name ?_
      refine q_set val_c ?_
      -- the end of the turn, from any heap with the part in its place
      cases ep : mv.p with
      | none =>
        rw [ep] at hx1'
        cases hx1'
        refine q_when (b := false) (a_test (v_notN1 (v_ixT (val_var rfl) val_c hxa2 (atI_nat (j := 3) rfl)))) (fun z => by cases z) (fun _ => ?_)
        refine s_append (val_var rfl) hacc (t_tup (va_cons (v_ixT (val_var rfl) val_c hxa2 (atI_nat (j := 2) rfl)) (va_cons (val_var rfl) va_nil)) fun p hp => ⟨acc, sm_up hp _ _ hacc, big6 (by omega), ?_⟩)
        have s3 : Same H2 (upd H2 p (.tup [.int (mv.i : Nat), .non])) := sm_up hp
        have tp : Tp (upd H2 p (.tup [.int (mv.i : Nat), .non])) (upd (upd H2 p (.tup [.int (mv.i : Nat), .non])) tl (.lst (acc ++ [.ref p]))) := .lst (s3 _ _ hacc)
        have rw3 := rw2.up s3
        refine ⟨PK2, rows2, acc ++ [.ref p], _, _, rfl, ?_, ro2, ext2, fun mv' hm' e he => ?_, upd_same, ?_, by rw [upd_ne ntl]; exact s3 _ _ hla2, fun b u q nb => by rw [upd_ne (fun z => by rw [z, htl] at q; cases q)]; exact s3 _ _ (fr2 _ _ q nb), (tp2.trans (.same s3)).trans tp⟩
        · obtain ⟨dx3, fd3, q1, q2⟩ := rw3.ob
          obtain ⟨zs, q3, q4⟩ := rw3.rows'
          refine ⟨sm_own rw3.same htl0, ⟨dx3, fd3, ?_, q2⟩, rw3.pl.stay intR_m (upd_ne ntp.symm) tp, ⟨zs, by rw [upd_ne ntr.symm]; exact q3, q4.mono rowR_m tp⟩, rw3.fpd, rw3.frl⟩
          rw [upd_ne (fun z => by rw [z, s3 _ _ hacc] at q1; cases q1)]
          exact q1
        · rw [take_succ' hmv] at hm'
          rcases List.mem_append.mp hm' with z | z
          · exact pi2 mv' z e he
          · have z' : mv' = mv := by simpa using z
            rw [z', ep] at he; cases he
        · rw [take_succ' hmv, List.map_append]
          refine (hall.mono mvR_m ((Tp.same s3).trans tp)).snoc ⟨p, .int (mv.i : Nat), .non, rfl, tp _ _ upd_same, rfl, ?_⟩
          simp [told, ep, optR]
      | some e =>
        rw [ep] at hx1'
        obtain ⟨eb, rfl, heb⟩ := hx1'
        have hek : e ∈ keysE KK := hpi mv (List.mem_of_getElem? hmv) e ep
        obtain ⟨dx2, fd2, ha2, _⟩ := rw2.ob
        refine q_whenE (a_test (v_notN0 (v_ixT (val_var rfl) val_c hxa2 (atI_nat (j := 3) rfl))) _ (iteT ?_))
        refine q_drop (e_meth (val_var rfl) ha2 (rwF_no _ _ _ (by decide +kernel) (by decide +kernel) (by decide +kernel)) (va_cons (v_ixT (val_var rfl) val_c hxa2 (atI_nat (j := 3) rfl)) (va_cons val_c va_nil)) ⟨M, mk, H0, KK, PK2, rows2, a, pd, rl, .ref eb, e, rfl, ok, rw2, tko, ro2, hK, ⟨eb, rfl, heb⟩, hek, fun H3 PK3 rows3 rw3 ro3 ext3 he3 fr3 tp3 => ?_⟩)
        obtain ⟨dx3, fd3, ha3, hmp3⟩ := id rw3.ob
        obtain ⟨kpl, dpl, hpl⟩ := pl_get ro3.nd rw3.pl he3
        have hacc3 : H3 tl = some (.lst acc) := fr3 _ _ hacc (by simp [ntp, ntr])
        have hla3 : H3 la = some (.lst xs) := fr3 _ _ hla2 (by simp [nlp, nlr])
        have hxa3 := tp3 _ _ hxa2
        have heb3 := tp3 _ _ heb
        refine s_set (v_xget (k := e) (rw_fld T ha3 (val_var rfl) (by simp) (rwF_places _ _ _)) (v_ixT (val_var rfl) val_c hxa3 (atI_nat (j := 3) rfl)) dpl heb3 hpl) ?_
        refine s_append (val_var rfl) hacc3 (t_tup (va_cons (v_ixT (val_var rfl) val_c hxa3 (atI_nat (j := 2) rfl)) (va_cons (val_var rfl) va_nil)) fun p hp => ⟨acc, sm_up hp _ _ hacc3, big6 (by omega), ?_⟩)
        have s4 : Same H3 (upd H3 p (.tup [.int (mv.i : Nat), .int ((PK3.idxOf e : Nat) : Int)])) := sm_up hp
        have tp : Tp (upd H3 p (.tup [.int (mv.i : Nat), .int ((PK3.idxOf e : Nat) : Int)])) (upd (upd H3 p (.tup [.int (mv.i : Nat), .int ((PK3.idxOf e : Nat) : Int)])) tl (.lst (acc ++ [.ref p]))) := .lst (s4 _ _ hacc3)
        have rw4 := rw3.up s4
        refine ⟨PK3, rows3, acc ++ [.ref p], _, _, rfl, ?_, ro3, ext2.trans ext3, fun mv' hm' e' he' => ?_, upd_same, ?_, by rw [upd_ne ntl]; exact s4 _ _ hla3, fun b u q nb => by rw [upd_ne (fun z => by rw [z, htl] at q; cases q)]; exact s4 _ _ (fr3 _ _ (fr2 _ _ q nb) nb), ((tp2.trans tp3).trans (.same s4)).trans tp⟩
        · obtain ⟨dx5, fd5, q1, q2⟩ := rw4.ob
          obtain ⟨zs, q3, q4⟩ := rw4.rows'
          refine ⟨sm_own rw4.same htl0, ⟨dx5, fd5, ?_, q2⟩, rw4.pl.stay intR_m (upd_ne ntp.symm) tp, ⟨zs, by rw [upd_ne ntr.symm]; exact q3, q4.mono rowR_m tp⟩, rw4.fpd, rw4.frl⟩
          rw [upd_ne (fun z => by rw [z, s4 _ _ hacc3] at q1; cases q1)]
          exact q1
        · rw [take_succ' hmv] at hm'
          rcases List.mem_append.mp hm' with z | z
          · exact mem_ext ext3 (pi2 mv' z e' he')
          · have z' : mv' = mv := by simpa using z
            rw [z', ep] at he'
            cases he'
            exact he3
        · rw [take_succ' hmv, List.map_append, told_ext ext3 pi2]
          refine ((hall.mono mvR_m tp3).mono mvR_m ((Tp.same s4).trans tp)).snoc ⟨p, .int (mv.i : Nat), .int ((PK3.idxOf e : Nat) : Int), rfl, tp _ _ upd_same, rfl, ?_⟩
          simp [told, ep, optR, intR]
    · rintro σ H2 ⟨PK2, rows2, acc, o3, o4, rfl, rw2, ro2, ext2, pi2, hacc, hall, hla2, fr2, tp2⟩
      rw [← hxs.len, List.take_length] at pi2 hall
      refine s_retE (val_var rfl _ ⟨tl, acc, rfl, .inl ⟨SqL.of hacc, fun q hq => ?_⟩⟩)
      have s3 : Same H2 (upd H2 q (.tup acc)) := sm_up hq
      exact k _ _ PK2 rows2 (rw2.up s3) ro2 ext2 pi2 ⟨q, acc, rfl, upd_same, hall.mono mvR_m (.same s3)⟩ (fun b u e nb => s3 _ _ (fr2 _ _ e nb)) (tp2.trans (.same s3))
end
end PW
end

section
set_option Elab.async false
set_option maxRecDepth 100000
set_option maxHeartbeats 4000000
set_option linter.all false
/-! Walks: endless. -/
namespace PW
open PySem L2 PX PR
section
variable {P : Program} {w : World} {K : PySem.W.Frag} {mg : Str → Option Value} {base : Heap} {c : Cs}
theorem e_opE {σ : L2.St} {H : Hp} {ta tb : TE} {r : R2} {Q : VK} (h : ta σ H fun x H1 => tb σ H1 fun y H2 => r x y H2 Q) : tOp r ta tb σ H Q := h
theorem e_cbE {σ : L2.St} {H : Hp} {r : List V → Hp → VK → Prop} {t : TA} {Q : VK} (h : t σ H fun vs H1 => r vs H1 Q) : tCB r t σ H Q := h
theorem keysAt_en {H : Hp} {kvs : List (Ent × V)} {bs : List Addr} (h : KeysAt H kvs bs) : All entR H (kvs.map (·.1)) (bs.map V.ref) := by
  unfold KeysAt at h
  induction h with
  | nil => exact .nil
  | cons h t ih => exact .cons ⟨_, rfl, h⟩ ih
theorem en_pairs {H : Hp} : ∀ {es : List Ent} {xs : List V}, All entR H es xs → Paired (fun x b => Dp K H x (encEn b) ∧ entR H b x) xs es
  | _, _, .nil => .nil
  | _, _, .cons h t => .cons ⟨by obtain ⟨b, rfl, hb⟩ := h; exact dp_en hb, h⟩ (en_pairs t)
theorem mov_parts {M : Mach} {mk : Int → Bool} {T : List Ent} {h : Hd} {mv : Mov} (hm : mv ∈ movs M mk T h) : ∀ e, mv.p = some e → e ∈ T := by
  obtain ⟨i, st, h1, h2, h3⟩ := mem_movs.mp hm
  intro e he
  unfold movsOf at h3
  split at h3
  · cases h3
  · simp at h3; subst h3; cases he
  · rcases List.mem_cons.mp h3 with h3 | h3
    · subst h3; cases he
    · obtain ⟨x, hx, rfl⟩ := List.mem_map.mp h3
      cases he
      exact (List.mem_filter.mp hx).1
  · simp at h3; subst h3; cases he
theorem path_parts {M : Mach} {mk : Int → Bool} {T : List Ent} {h h' : Hd} {ms : List Mov} (p : Path M mk T h ms h') : PartsIn T ms := by
  induction p with
  | nil h => intro mv hm; cases hm
  | cons h1 _ ih =>
    intro mv hm e he
    rcases List.mem_cons.mp hm with rfl | hm
    · exact mov_parts h1 e he
    · exact ih mv hm e he
theorem movsOf_sub {mk : Int → Bool} {T T' : List Ent} (h : ∀ e, e ∈ T → e ∈ T') {st : Stp} {i : Nat} {mv : Mov} (hm : mv ∈ movsOf mk T st i) : mv ∈ movsOf mk T' st i := by
  unfold movsOf at hm ⊢
  split at hm
  · cases hm
  · exact hm
  · rename_i a b hl
    rcases List.mem_cons.mp hm with z | z
    · exact z ▸ List.mem_cons_self
    · obtain ⟨e, he, rfl⟩ := List.mem_map.mp z
      obtain ⟨h1, h2⟩ := List.mem_filter.mp he
      exact List.mem_cons_of_mem _ (List.mem_map.mpr ⟨e, List.mem_filter.mpr ⟨h e h1, h2⟩, rfl⟩)
  · exact hm
theorem next_sub {T T' : List Ent} (h : ∀ e, e ∈ T' → e ∈ T) {l : Int} {sts sts' : List Int} (hs : ∀ b ∈ sts', b ∈ sts) : ∀ b ∈ nextJ T' l sts', b ∈ nextJ T l sts := by
  intro b hb
  unfold nextJ at hb ⊢
  rw [mem_foldl_ins] at hb ⊢
  rcases hb with z | z
  · cases z
  · right
    obtain ⟨s, hs1, hs2⟩ := List.mem_flatMap.mp z
    obtain ⟨q, hq, rfl⟩ := List.mem_map.mp hs2
    exact List.mem_flatMap.mpr ⟨s, hs s hs1, List.mem_map.mpr ⟨q, mem_fromJ (h _ (of_mem_fromJ hq)), rfl⟩⟩
theorem starts_sub {T T' : List Ent} (h : ∀ e, e ∈ T' → e ∈ T) {F : List Hd} : ∀ {p : List Int} {sts sts' : List Int}, (∀ b ∈ sts', b ∈ sts) → StartsIn T F p sts → StartsIn T' F p sts'
  | [], _, _, _, _ => trivial
  | l :: p, sts, sts', hs, hh => ⟨fun b hb => hh.1 b (hs b hb), starts_sub h (next_sub h hs) hh.2⟩
theorem _root_.PR.RanksOk.congr {M : Mach} {mk : Int → Bool} {T T' : List Ent} {F : List Hd} {R : List (Hd × Int)} (rk : RanksOk M mk T F R) (h : ∀ e, e ∈ T' ↔ e ∈ T) : RanksOk M mk T' F R where
  keys := rk.keys
  nn := rk.nn
  falls := fun x r hr mv hm => by
    obtain ⟨i, st, h1, h2, h3⟩ := mem_movs.mp hm
    exact rk.falls x r hr mv (mem_movs.mpr ⟨i, st, h1, h2, movsOf_sub (fun e => (h e).mp) h3⟩)
def spEndless (P : Program) (w : World) (c : Cs) : Sp := fun vs H Q _ => ∃ (M : Mach) (ms : List Int) (cf : Int × List Int) (m mv cv : V), vs = [m, mv, cv] ∧ M.Ok ∧ CfgOk M cf ∧ machR c H M m ∧ tupR intR H ms mv ∧ ms.length ≤ 1000 ∧ cfgR H cf cv ∧
  ∀ a pv (p : Paper) H', Same H H' → H' a = some (.tup [.bl p.verdict, pv]) → paperR H' p pv → PaperOk p → p.right M (mkOf ms) cf = true → Q (.ref a) H'
theorem sc_endless : FnScope ["machine", "marked", "configuration", "table", "heads", "begins", "found", "ring", "way", "start", "rows", "entry", "descent", "told_way", "told_ring"] ["machine", "marked", "configuration"] (defScope sEndless) := ⟨rfl, rfl, rfl, by decide +kernel, rfl, by decide +kernel, by decide +kernel⟩
theorem ok_endless (T : Txt K mg c) {f : Addr} {fd : FuncData} (F : Fun K "endless" "endless" sEndless f fd) : FnOk P w K mg base CX0 5 f fd ["machine", "marked", "configuration"] (spEndless P w c) := by
  obtain ⟨f1, fd1, F1, b1, m1⟩ := T.toInit
  obtain ⟨f2, fd2, F2, b2, m2⟩ := T.hdInit
  obtain ⟨f3, fd3, F3, b3, m3⟩ := T.descents
  obtain ⟨f4, fd4, F4, b4, m4⟩ := T.hdReached
  obtain ⟨f5, fd5, F5, b5, m5⟩ := T.ringAt
  obtain ⟨f6, fd6, F6, b6, m6⟩ := T.toldRanks
  obtain ⟨f7, fd7, F7, b7, m7⟩ := T.wayTo
  obtain ⟨f8, fd8, F8, b8, m8⟩ := T.rwInit
  obtain ⟨f9, fd9, F9, b9, m9⟩ := T.rwAdd
  obtain ⟨f10, fd10, F10, b10, m10⟩ := T.toldMoves
  have G1 : FnOk P w K mg base CX0 3 f1 fd1 ["self", "machine", "marked"] (spToInit P w c) := ok_toInit T F1
  have G2 : FnOk P w K mg base CX0 2 f2 fd2 ["self", "machine", "table"] (spHdInit P w c) := ok_hdInit T F2
  have G3 : FnOk P w K mg base CX0 2 f3 fd3 ["table", "configuration"] (spDescents P w c) := ok_descents T F3
  have G4 : FnOk P w K mg base CX0 2 f4 fd4 ["self", "heads"] (spReached P w c) := ok_reached T F4
  have G5 : FnOk P w K mg base CX0 3 f5 fd5 ["heads", "found"] (spRingAt P w c) := ok_ringAt T F5
  have G6 : FnOk P w K mg base CX0 2 f6 fd6 ["heads", "found"] (spToldRanks P w c) := ok_toldRanks T F6
  have G7 : FnOk P w K mg base CX0 1 f7 fd7 ["found", "head"] (spWayTo P w) := ok_wayTo T F7
  have G8 : FnOk P w K mg base CX0 1 f8 fd8 ["self", "found"] (spRwInit P w c) := ok_rwInit T F8
  have G9 : FnOk P w K mg base CX0 2 f9 fd9 ["self", "key", "with_items"] (spRwAdd P w c) := ok_rwAdd T F9
  have G10 : FnOk P w K mg base CX0 3 f10 fd10 ["rows", "moves"] (spTold P w c) := ok_told T F10
  refine F.ok sc_endless (k := 4) (fun vs H Q E h => ?_) (fun cdv A outer s H vs Q E hr h => ?_)
  · obtain ⟨M, ms, cf, m, mv, cv, rfl, _⟩ := h
    rfl
  · obtain ⟨M, ms, cf, m, mv, cv, rfl, ok, hcf, hm, hms, hml, hcv, k⟩ := h
    have hu := hu_of hr
    have hr3 : Room 3 _ := hr.mono (by decide)
    have hr2 : Room 2 _ := hr.mono (by decide)
    have hr1 : Room 1 _ := hr.mono (by decide)
    refine ⟨_, (pss_cons (ps_set (i := 3) sc_endless.nd rfl (by first | exact Or.inl rfl | exact Or.inr rfl) (pe_make m1 G1 hr (by rfl) T.mto b1 .nil pass0 (pa_cons (pv 0) (pa_cons (pv 1) pa_nil))))
      (pss_cons (ps_set (i := 4) sc_endless.nd rfl (by first | exact Or.inl rfl | exact Or.inr rfl) (pe_make m2 G2 hr3 (by rfl) T.mhd b2 .nil pass0 (pa_cons (pv 0) (pa_cons (pv 3) pa_nil))))
      (pss_cons (ps_set (i := 5) sc_endless.nd rfl (by first | exact Or.inl rfl | exact Or.inr rfl) (pe_call G3 hr2 (by rfl) m3 F3.kp b3 .nil pass0 (pa_cons (pv 3) (pa_cons (pv 2) pa_nil))))
      (pss_cons (ps_set (i := 6) sc_endless.nd rfl (by first | exact Or.inl rfl | exact Or.inr rfl) (pe_meth (pv 4) T.hd.cl m4 G4 hr2 b4 .nil pass0 (pa_cons (pe_callTy (call_listX Hd rfl) (by rfl) T.b (by decide +kernel) (pa_cons (pv 5) pa_nil)) pa_nil)))
      (pss_cons (ps_set (i := 7) sc_endless.nd rfl (by first | exact Or.inl rfl | exact Or.inr rfl) (pe_call G5 hr3 (by rfl) m5 F5.kp b5 .nil pass0 (pa_cons (pv 4) (pa_cons (pv 6) pa_nil))))
      (pss_cons (ps_if (pt_cmpR op_isN (pv 7) pe_non (nomark _))
          (pss_one (ps_ret (pe_tup (pa_cons pe_bl (pa_cons (pe_tup (pa_cons pe_str (pa_cons (pe_callTy call_tuple_of (by rfl) T.b (by decide +kernel) (pa_cons (pe_callB (cr_sortedR encEn entR hr.units) (by rfl) T.b (by decide +kernel) (pa_cons (pe_callTy (call_listX Ent rfl) (by rfl) T.b (by decide +kernel) (pa_cons (pe_fld (pv 3) rfl) pa_nil)) pa_nil)) pa_nil)) (pa_cons (pe_call G6 hr2 (by rfl) m6 F6.kp b6 .nil pass0 (pa_cons (pv 4) (pa_cons (pv 6) pa_nil))) pa_nil)))) pa_nil)))))
          pss_nil)
      (pss_cons (ps_set (i := 8) sc_endless.nd rfl (by first | exact Or.inl rfl | exact Or.inr rfl) (pe_call G7 hr1 (by rfl) m7 F7.kp b7 .nil pass0 (pa_cons (pv 6) (pa_cons (pe_ix ix_tup (pv 7) pe_int (fun _ _ => rfl)) pa_nil))))
      (pss_cons (ps_set (i := 9) sc_endless.nd rfl (by first | exact Or.inl rfl | exact Or.inr rfl) (pe_ix ix_tup (pv 7) pe_int (fun _ _ => rfl)))
      (pss_cons (ps_while PassesOwn.never (pt_cmpR op_notN (pe_xget Hd hu (pv 6) (pv 9) (fun _ _ => rfl)) pe_non (nomark _))
          (pss_one (ps_set (i := 9) sc_endless.nd rfl (by first | exact Or.inl rfl | exact Or.inr rfl) (pe_ix ix_tup (pe_xget Hd hu (pv 6) (pv 9) (fun _ _ => rfl)) pe_int (fun _ _ => rfl)))))
      (pss_cons (ps_set (i := 10) sc_endless.nd rfl (by first | exact Or.inl rfl | exact Or.inr rfl) (pe_make m8 G8 hr2 (by rfl) T.mrw b8 .nil pass0 (pa_cons (pe_fld (pv 3) rfl) pa_nil)))
      (pss_cons (ps_for PassesOwn.never rfl (pi_tup (pe_xget Hd hu (pv 5) (pv 9) (fun _ _ => rfl))) (pg_name (i := 11) sc_endless.nd rfl (by first | exact Or.inl rfl | exact Or.inr rfl))
          (pss_one (ps_expr (pe_meth (pv 10) T.rw.cl m9 G9 hr2 b9 .nil pass0 (pa_cons (pv 11) (pa_cons pe_bl pa_nil))))))
      (pss_cons (ps_set (i := 12) sc_endless.nd rfl (by first | exact Or.inl rfl | exact Or.inr rfl) (pe_callTy call_tuple_of (by rfl) T.b (by decide +kernel) (pa_cons (pe_lc (own := [("entry", 11)]) (tt := tYes) (te := tXGet Ent P w (tFld K (tVar 10) "places") (tVar 11)) rfl sc_endless.nd (pi_tup (pe_xget Hd hu (pv 5) (pv 9) (fun _ _ => rfl))) (blkOk_by (N := ["machine", "marked", "configuration", "table", "heads", "begins", "found", "ring", "way", "start", "rows", "entry", "descent", "told_way", "told_ring"]) (sc := defScope sEndless) (by decide +kernel)) (fun _ _ _ _ _ => (pg_name (i := 11) sc_endless.nd rfl (by first | exact Or.inl rfl | exact Or.inr rfl))) (fun _ _ _ _ _ => pts_nil) (fun _ _ _ _ _ => (pe_xget Ent hu (pe_fld (pv 10) rfl) (pv 11) (fun _ _ => rfl)))) pa_nil)))
      (pss_cons (ps_set (i := 13) sc_endless.nd rfl (by first | exact Or.inl rfl | exact Or.inr rfl) (pe_call G10 hr3 (by rfl) m10 F10.kp b10 .nil pass0 (pa_cons (pv 10) (pa_cons (pv 8) pa_nil))))
      (pss_cons (ps_set (i := 14) sc_endless.nd rfl (by first | exact Or.inl rfl | exact Or.inr rfl) (pe_call G10 hr3 (by rfl) m10 F10.kp b10 .nil pass0 (pa_cons (pv 10) (pa_cons (pe_op op_cat (pe_lst (pa_cons (pe_ix ix_tup (pv 7) pe_int (fun _ _ => rfl)) pa_nil)) (pe_ix ix_tup (pv 7) pe_int (fun _ _ => rfl))) pa_nil))))
      (pss_one (ps_ret (pe_tup (pa_cons pe_bl (pa_cons (pe_tup (pa_cons pe_str (pa_cons (pe_callTy call_tuple_of (by rfl) T.b (by decide +kernel) (pa_cons (pe_fld (pv 10) rfl) pa_nil)) (pa_cons (pv 12) (pa_cons (pv 13) (pa_cons (pv 14) pa_nil)))))) pa_nil))))))))))))))))))), ?_⟩
    -- table = TakeOff(machine, marked)
    refine q_asg (e_make (va_cons (val_var rfl) (va_cons (val_var rfl) va_nil)) fun ta tdx0 hta htdx ndt => ?_)
    refine ⟨M, ms, H, ta, tdx0, m, mv, rfl, sm_own (sm_up htdx) hta, hta, hm, ok, hms, hml, upd_same, fun H1 fd ld KK L n tm tko tok => ⟨rfl, ?_⟩⟩
    have s01 := tm.same
    obtain ⟨tdx, tmm, md, hta1, hmt, hmk1⟩ := tm.ob
    have hKl : (keysE KK).length ≤ 96 := by rw [keysE_len]; exact tok.len ok
    have hinn : ∀ e ∈ keysE KK, EntIn M e := tok.inn
    -- heads = Heads(machine, table)
    refine q_asg (e_make (va_cons (val_var rfl) (va_cons (val_var rfl) va_nil)) fun ha hdx0 hha hhdx ndh => ?_)
    refine ⟨H1, M, mkOf ms, keysE KK, ha, hdx0, ta, tdx, md, fd, ld, m, tmm, L, n, rfl, sm_own (sm_up hhdx) hha, hha, machR_m.mono (.same s01) hm, ok, hta1, hmk1, tm.lv, hKl, upd_same, fun H2 hm2 L2 n2 s12 hha2 mm2 fL2 => ⟨rfl, ?_⟩⟩
    have s02 := s01.trans s12
    -- begins = descents(table, configuration)
    refine q_asg (e_call (va_cons (val_var rfl) (va_cons (val_var rfl) va_nil)) ⟨M, keysE KK, cf, cv, ta, tdx, md, fd, ld, tmm, L, n, rfl, ok, hinn, hKl, hcf, cfgR_m.mono (.same s02) hcv, s12 _ _ hta1, tm.lv.same keyR_m s12, fun bd B lev H3 s23 hbd mapB dp => ?_⟩)
    have hB12 := desc_len ok dp
    have ndB : (B.map (·.1)).Nodup := dp.desc.nd
    obtain ⟨kb, dkb, pkb⟩ := id mapB
    -- found = heads.reached(list(begins))
    refine q_asg (e_methE (val_var rfl) (s23 _ _ hha2) (hdF_no _ (by decide +kernel)) (tcons_E (e_cbE (v_cons (val_var rfl) (v_nil ⟨bd, kb, rfl, dkb.rd, fun bl bls hbl hbls => v_nil ?_⟩)))))
    have s34 : Same H3 (upd H3 bl (.lst (bls.map V.ref))) := sm_up hbl
    have hbl4 : (upd H3 bl (.lst (bls.map V.ref))) bl = some (.lst (bls.map V.ref)) := upd_same
    have hblA := keysAt_all hbls
    rw [pair_keys pkb] at hblA
    have hblA4 := hblA.mono keyR_m (.same s34)
    generalize (upd H3 bl (.lst (bls.map V.ref))) = H4 at s34 hbl4 hblA4
    have s24 := s23.trans s34
    refine ⟨M, mkOf ms, keysE KK, ha, hdx0, hm2, .ref bl, B.map (·.1), L2, n2, rfl, ok, hinn, s24 _ _ hha2, mm2.same movR_m s24, ⟨bl, _, rfl, hbl4, hblA4⟩, by rw [List.length_map]; omega, dp.box, fun fo FF H5 s45 hfo mapF ro => ?_⟩
    have s25 := s24.trans s45
    have hfoL : fo ∉ L2 := (mm2.same movR_m s24).live hfo
    -- ring = ring_at(heads, found)
    refine q_asg (e_call (va_cons (val_var rfl) (va_cons (val_var rfl) va_nil)) ⟨M, mkOf ms, keysE KK, B.map (·.1), FF, ha, hdx0, hm2, fo, L2, n2, rfl, ok, hinn, hKl, s25 _ _ hha2, mm2.same movR_m s25, hfoL, mapF, ro, fun v H6 s56 hring => ?_⟩)
    have s26 := s25.trans s56
    have s16 := s12.trans s26
    have s06 := s01.trans s16
    have mapF6 := mapF.same pdR_m s56
    have fnd6 := tm.fnd.same feR_m s16
    have hta6 := s16 _ _ hta1
    have hha6 := s26 _ _ hha2
    have mm6 := mm2.same movR_m s26
    rcases hring with ⟨rfl, hno⟩ | ⟨t, h, mvr, msr, x, y, rq, rys, rfl, ht, ⟨hb, rfl, hhb⟩, hmvr, hrq, hrall, hhk, hmvm, hmark, hpath, hlr⟩
    · -- no marked ring
      refine q_when (b := true) (a_test (v_isN1 (val_var rfl))) (fun _ => ?_) (fun z => by cases z)
      obtain ⟨kf, dkf, pkf⟩ := id fnd6
      refine s_retE (t_tupE (v_cons val_c (tcons_E (t_tupE (v_cons val_c (tcons_E (e_cbE (tcons_E (e_cbE (tcons_E (e_cbE (v_cons (to_fld T hta6 (val_var rfl) (by simp) (toF_found _ _ _ _)) (v_nil ⟨fd, kf, rfl, dkf.rd, fun kl kbs hkl hkbs => v_nil ?_⟩)))))))))))))
      have s67 : Same H6 (upd H6 kl (.lst (kbs.map V.ref))) := sm_up hkl
      have hen := keysAt_en hkbs
      rw [pair_keys pkf] at hen
      have hen7 : All entR (upd H6 kl (.lst (kbs.map V.ref))) (keysE KK) (kbs.map V.ref) := hen.mono keyR_m (.same s67)
      have hkl7 : (upd H6 kl (.lst (kbs.map V.ref))) kl = some (.lst (kbs.map V.ref)) := upd_same
      generalize (upd H6 kl (.lst (kbs.map V.ref))) = H7 at s67 hen7 hkl7
      refine ⟨kl, _, keysE KK, rfl, SqL.of hkl7, en_pairs hen7, alike_en _, sortable_en _, fun b _ => depth_en b, fun ys p2 hp2 hys => v_nil ⟨p2, ys, rfl, .inl ⟨SqL.of upd_same, fun q hq => ?_⟩⟩⟩
      have s78 : Same H7 (upd (upd H7 p2 (.lst ys)) q (.tup ys)) := sm_new (sm_up hp2) hq
      have hq8 : (upd (upd H7 p2 (.lst ys)) q (.tup ys)) q = some (.tup ys) := upd_same
      have hys8 := (flip_all hys).mono keyR_m (.same s78)
      have perm : ((keysE KK).mergeSort (PySem.W.dataLe false encEn)).Perm (keysE KK) := List.mergeSort_perm _ _
      generalize (upd (upd H7 p2 (.lst ys)) q (.tup ys)) = H8 at s78 hq8 hys8
      have s68 := s67.trans s78
      refine tcons_E (e_call (va_cons (val_var rfl) (va_cons (val_var rfl) va_nil)) ⟨M, mkOf ms, keysE KK, B.map (·.1), FF, ha, hdx0, hm2, fo, L2, n2, rfl, ok, s68 _ _ hha6, mm6.same movR_m s68, hfoL, mapF6.same pdR_m s68, ro, hno, fun v H9 R s89 hR rok asc hin ndR hRl => v_nil ⟨by show 3 ≤ sizeLine; decide, fun t1 ht1 => v_nil ⟨by show 2 ≤ sizeLine; decide, fun t2 ht2 => ?_⟩⟩⟩)
      have sA := sm_new (o := .tup [.bl false, .ref t1]) (sm_up (o := .tup [.str "not", .ref q, v]) ht1) ht2
      refine k t2 (.ref t1) (.not ((keysE KK).mergeSort (PySem.W.dataLe false encEn)) R) _ (((s06.trans s68).trans s89).trans sA) upd_same ?_ ?_ ?_
      · refine ⟨t1, .ref q, v, rfl, sm_up ht2 _ _ upd_same, ⟨q, ys, rfl, sA _ _ (s89 _ _ hq8), (hys8.mono keyR_m (.same s89)).mono keyR_m (.same sA)⟩, (tupR_m rkR_m).mono (.same sA) hR⟩
      · exact ⟨(perm.nodup_iff).mpr tok.nd, by rw [perm.length_eq]; omega, ndR, by omega⟩
      · refine not_right tko (fun e => perm.mem_iff) (fun h hh => ro.p.box h hh) (rok.congr fun e => perm.mem_iff) ok.lt1 asc hin (starts_sub (fun e => perm.mem_iff.mp) (fun b hb => hb) (dp.fin fun h hh => ?_))
        exact List.mem_map.mpr ⟨(h, none), ro.p.starts h hh, rfl⟩
    · -- a marked ring
      refine q_when (b := false) (a_test (v_isN0 (val_var rfl))) (fun z => by cases z) (fun _ => ?_)
      obtain ⟨msw, r, chn, lmsw⟩ := ro.p.chain hhk
      have lFF := ro.p.len ok
      obtain ⟨pway, hrroot⟩ := ro.p.path chn
      have hrB := ro.p.none' r hrroot
      obtain ⟨be, hbe, ebe⟩ := List.mem_map.mp hrB
      obtain ⟨r', es⟩ := be
      have ebe' : r = r' := ebe.symm
      subst ebe'
      obtain ⟨hesT, hesl, hesc, hesp⟩ := dp.desc.ok r es hbe
      -- way = way_to(found, ring[0])
      refine q_asg (e_call (va_cons (val_var rfl) (va_cons (v_ixT (val_var rfl) val_c ht (atI_nat (j := 0) rfl)) va_nil)) ⟨FF, fo, .ref hb, h, r, msw, rfl, mapF6.r, ⟨hb, rfl, hhb⟩, ro.p.nd, chn, by omega, fun wl wys H7 s67 hwl hwl7 hwall => ?_⟩)
      refine q_set (v_ixT (val_var rfl) val_c (s67 _ _ ht) (atI_nat (j := 0) rfl)) ?_
      have mapF7 := mapF6.same pdR_m s67
      obtain ⟨kF, dkF, pkF⟩ := id mapF7
      have mapB7 : MapM (tupR entR) P w H7 bd B := (((mapB.same (tupR_m keyR_m) s34).same (tupR_m keyR_m) s45).same (tupR_m keyR_m) s56).same (tupR_m keyR_m) s67
      obtain ⟨kB, dkB, pkB⟩ := id mapB7
      -- the start
      refine q_whileE (fun μ σ H' => H' = H7 ∧ ∃ (h' : Hd) (sb : Addr) (ms' : List Mov) (o10 o11 o12 o13 o14 : Option V), σ = [some m, some mv, some cv, some (.ref ta), some (.ref ha), some (.ref bd), some (.ref fo), some (.ref t), some (.ref wl), some (.ref sb), o10, o11, o12, o13, o14] ∧ H7 sb = some (.tup (DKey.vs h')) ∧ Chn FF h' ms' r ∧ μ = ms'.length)
        ⟨_, rfl, h, hb, msw, _, _, _, _, _, rfl, s67 _ _ hhb, chn, rfl⟩ ?_
      rintro μ σ H7' ⟨rfl, h', sb, ms', o10, o11, o12, o13, o14, rfl, hsb, chn', hμ⟩
      cases chn' with
      | @step _ h'' _ mv' ms'' hmem chn'' =>
        obtain ⟨v, hv, va, vx, vy, rfl, hva, ⟨sb', rfl, hsb'⟩, _⟩ := pair_mem pkF ro.p.nd hmem
        refine a_test (v_notN0 (v_xget (k := h') (val_var rfl) (val_var rfl) dkF.rd hsb hv)) _ (iteT ⟨_, fun _ _ h => h, ?_⟩)
        refine s_set (v_ixT (v_xget (k := h') (val_var rfl) (val_var rfl) dkF.rd hsb hv) val_c hva (atI_nat (j := 0) rfl)) ?_
        exact ⟨_, by rw [hμ, List.length_append, List.length_singleton]; omega, rfl, h'', sb', ms'', _, _, _, _, _, rfl, hsb', chn'', rfl⟩
      | root hmem =>
        obtain ⟨v, hv, rfl⟩ := pair_mem pkF ro.p.nd hmem
        refine a_test (v_notN1 (v_xget (k := r) (val_var rfl) (val_var rfl) dkF.rd hsb hv)) _ (iteF ?_)
        have s07 := s06.trans s67
        have fnd7 := fnd6.same feR_m s67
        have hta7 := s67 _ _ hta6
        -- rows = Rows(table.found)
        refine q_asg (e_make (va_cons (to_fld T hta7 (val_var rfl) (by simp) (toF_found _ _ _ _)) va_nil) fun ra rdx hra hrdx ndr => ?_)
        refine ⟨H7', KK, ra, rdx, fd, rfl, sm_own (sm_up hrdx) hra, hra, fnd7.r, upd_same, fun H8 pd rl rw8 => ⟨rfl, ?_⟩⟩
        obtain ⟨bv, hbv, bt, bes, rfl, hbt, hbes⟩ := pair_mem pkB ndB hbe
        have s78 := rw8.same
        have hKK : KK.length ≤ 96 := tok.len ok
        -- the entries of the descent
        refine q_tup (xs := bes) (v_xget (k := r) (val_var rfl) (val_var rfl) (dkB.same s78).rd (s78 _ _ hsb) hbv) (SqT.of (s78 _ _ hbt)) (fun i σ H' => ∃ (PK : List Ent) (rows : List RowJ) (o11 o12 o13 o14 : Option V), σ = [some m, some mv, some cv, some (.ref ta), some (.ref ha), some (.ref bd), some (.ref fo), some (.ref t), some (.ref wl), some (.ref sb), some (.ref ra), o11, o12, o13, o14] ∧ RwM P w c H7' H' ra pd rl KK PK rows ∧ RowsOk M (mkOf ms) KK PK rows ∧ ∀ e ∈ es.take i, e ∈ PK)
          ⟨[], [], _, _, _, _, rfl, rw8, .nil, fun e he => by cases he⟩ (fun i σ H' p => SqT.of (let ⟨_, _, _, _, _, _, _, q, _⟩ := p; q.same _ _ hbt)) ?_ ?_
        · rintro i x σ H9 hx ⟨PK, rows, o11, o12, o13, o14, rfl, rw9, ro9, hin9⟩
          obtain ⟨e, he, ea, rfl, hea⟩ := hbes.get' hx
          have hek := hesT e (List.mem_of_getElem? he)
          obtain ⟨dx9, fd9, ha9, _⟩ := rw9.ob
          refine g_name ?_
          refine s_drop (e_meth (val_var rfl) ha9 (rwF_no _ _ _ (by decide +kernel) (by decide +kernel) (by decide +kernel)) (va_cons (val_var rfl) (va_cons val_c va_nil)) ⟨M, mkOf ms, H7', KK, PK, rows, ra, pd, rl, .ref ea, e, rfl, ok, rw9, tko, ro9, hKK, ⟨ea, rfl, rw9.same _ _ hea⟩, hek, fun H10 PK10 rows10 rw10 ro10 ext10 he10 fr10 tp10 => ?_⟩)
          refine ⟨PK10, rows10, _, _, _, _, rfl, rw10, ro10, fun e' he' => ?_⟩
          rw [take_succ' he] at he'
          rcases List.mem_append.mp he' with z | z
          · exact mem_ext ext10 (hin9 e' z)
          · have z' : e' = e := by simpa using z
            rw [z']; exact he10
        · rintro σ H9 ⟨PK, rows, o11, o12, o13, o14, rfl, rw9, ro9, hin9⟩
          rw [← hbes.len, List.take_length] at hin9
          have hesl2 : es.length ≤ 5 := Nat.le_trans (Nat.le_of_lt hesl) hcf.2.2.2
          obtain ⟨dx9, fd9, ha9, _⟩ := id rw9.ob
          -- descent
          refine q_asg (e_cbE (tcons_E (e_lcT intR intR_m (es.map fun p => ((PK.idxOf p : Nat) : Int)) (v_xget (k := r) (val_var rfl) (val_var rfl) (dkB.same rw9.same).rd (rw9.same _ _ hsb) hbv) (rw9.same _ _ hbt) (by rw [List.length_map]; exact hbes.len) (Nat.le_trans (Nat.le_of_eq hbes.len.symm) (by show es.length ≤ 100000; omega)) (fun i x b H' Q' hx hb' sm kq => ?_) fun dl H10 dacc s910 hdl hdl10 hdacc => v_nil ?_)))
          · obtain ⟨e, he, ea, rfl, hea⟩ := hbes.get' hx
            rw [List.getElem?_map, show es[i]? = some e from he] at hb'
            cases hb'
            obtain ⟨kp, dp', hp'⟩ := pl_get ro9.nd (rw9.pl.same intR_m sm) (hin9 e (List.mem_of_getElem? he))
            exact g_name ⟨rfl, v_xget (k := e) (rw_fld T (sm _ _ ha9) (val_var rfl) (by simp) (rwF_places _ _ _)) (val_var rfl) dp' (sm _ _ (rw9.same _ _ hea)) hp' _ (kq _ _ (Same.refl _) rfl)⟩
          · have ed := all_ints hdacc
            subst ed
            refine ⟨dl, _, rfl, .inl ⟨SqL.of hdl10, fun dt hdt => ?_⟩⟩
            have s11 : Same H9 (upd H10 dt (.tup ((es.map fun p => ((PK.idxOf p : Nat) : Int)).map V.int))) := sm_new s910 hdt
            have hdt11 : (upd H10 dt (.tup ((es.map fun p => ((PK.idxOf p : Nat) : Int)).map V.int))) dt = some (.tup ((es.map fun p => ((PK.idxOf p : Nat) : Int)).map V.int)) := upd_same
            have rw11 := rw9.up s11
            show tSeq _ _ _ _ (upd H10 dt (.tup ((es.map fun p => ((PK.idxOf p : Nat) : Int)).map V.int)))
            generalize (upd H10 dt (.tup ((es.map fun p => ((PK.idxOf p : Nat) : Int)).map V.int))) = H11 at s11 hdt11 rw11
            have hpw := path_parts pway
            have hwrl : wl ≠ rl := fun z => by rw [z, rw8.frl] at hwl7; cases hwl7
            -- told_way
            refine q_asg (e_call (va_cons (val_var rfl) (va_cons (val_var rfl) va_nil)) ⟨M, mkOf ms, H7', KK, PK, rows, ra, pd, rl, wl, msw, wys, rfl, ok, rw11, tko, ro9, hKK, rw11.same _ _ hwl7, hwall.mono movR_m (.same rw11.same), hwrl, by omega, hpw, fun tw H12 PK12 rows12 rw12 ro12 ext12 pi12 htw fr12 tp12 => ?_⟩)
            have hrq12 : H12 rq = some (.lst rys) := rw12.same _ _ (s67 _ _ hrq)
            have ht12 := rw12.same _ _ (s67 _ _ ht)
            have hring : Path M (mkOf ms) (keysE KK) h (mvr :: msr) h := .cons hmvm hpath
            -- told_ring
            refine q_asg (e_callE (v_cons (val_var rfl) (tcons_E (e_opE (t_lst (va_cons (v_ixT (val_var rfl) val_c ht12 (atI_nat (j := 1) rfl)) va_nil) fun p hp => ?_)))))
            have s13 : Same H12 (upd H12 p (.lst [y])) := sm_up hp
            have hp13 : (upd H12 p (.lst [y])) p = some (.lst [y]) := upd_same
            refine v_ixT (val_var rfl) val_c (s13 _ _ ht12) (atI_nat (j := 2) rfl) _ ⟨p, rq, [y], rys, rfl, rfl, hp13, s13 _ _ hrq12, ?_, fun p2 hp2 => v_nil ?_⟩
            · rw [← hrall.len]
              exact Nat.le_trans (by show 1 + msr.length ≤ 100; omega) (by decide)
            · have s14 : Same H12 (upd (upd H12 p (.lst [y])) p2 (.lst ([y] ++ rys))) := sm_new s13 hp2
              have hp14 : (upd (upd H12 p (.lst [y])) p2 (.lst ([y] ++ rys))) p2 = some (.lst ([y] ++ rys)) := upd_same
              have np2 : p2 ≠ rl := fun z => by
                obtain ⟨zs, q, _⟩ := rw12.rows'
                rw [z, s13 _ _ q] at hp2; cases hp2
              have rw14 := rw12.up s14
              generalize (upd (upd H12 p (.lst [y])) p2 (.lst ([y] ++ rys))) = H14 at s14 hp14 rw14
              have hall14 : All movR H14 (mvr :: msr) ([y] ++ rys) := All.mono movR_m (.same (s67.trans rw14.same)) (show All movR H6 (mvr :: msr) (y :: rys) from .cons hmvr hrall)
              refine ⟨M, mkOf ms, H7', KK, PK12, rows12, ra, pd, rl, p2, mvr :: msr, [y] ++ rys, rfl, ok, rw14, tko, ro12, hKK, hp14, hall14, np2, by rw [List.length_cons]; omega, path_parts hring, fun tr H15 PK15 rows15 rw15 ro15 ext15 pi15 htr fr15 tp15 => ?_⟩
              obtain ⟨dx15, fd15, ha15, _⟩ := id rw15.ob
              obtain ⟨zs, hzs, hzall⟩ := rw15.rows'
              -- the paper
              refine s_retE (t_tupE (v_cons val_c (tcons_E (t_tupE (v_cons val_c (tcons_E (e_cbE (v_cons (rw_fld T ha15 (val_var rfl) (by simp) (rwF_rows _ _ _)) (v_nil ⟨rl, zs, rfl, .inl ⟨SqL.of hzs, fun q hq => ?_⟩⟩)))))))))
              refine v_cons (val_var rfl) (v_cons (val_var rfl) (v_cons (val_var rfl) (v_nil ⟨by show 5 ≤ sizeLine; decide, fun t1 ht1 => v_nil ⟨by show 2 ≤ sizeLine; decide, fun t2 ht2 => ?_⟩⟩)))
              have sA : Same H15 (upd (upd (upd H15 q (.tup zs)) t1 (.tup [.str "ever", .ref q, .ref dt, tw, tr])) t2 (.tup [.bl true, .ref t1])) := sm_new (sm_new (sm_up hq) ht1) ht2
              have ext1 := ext12.trans ext15
              have tpd : Tp H11 (upd (upd (upd H15 q (.tup zs)) t1 (.tup [.str "ever", .ref q, .ref dt, tw, tr])) t2 (.tup [.bl true, .ref t1])) := ((tp12.trans (.same s14)).trans tp15).trans (.same sA)
              have hl15 : rows15.length = PK15.length := by
                have := takings_len ro15.read
                rw [List.length_nil] at this
                omega
              have hPK15 : PK15.length ≤ 96 := by
                have := nodup_le ro15.nd ro15.sub
                omega
              refine k t2 (.ref t1) (.ever ⟨rows15, es.map fun e => ((PK15.idxOf e : Nat) : Int), msw.map (told PK15), (mvr :: msr).map (told PK15)⟩) _ ((s07.trans rw15.same).trans sA) upd_same ?_ ?_ ?_
              · refine ⟨t1, .ref q, .ref dt, tw, tr, rfl, sm_up ht2 _ _ upd_same, ⟨q, zs, rfl, sm_up ht2 _ _ (sm_up ht1 _ _ upd_same), hzall.mono rowR_m (.same sA)⟩, ⟨dt, _, rfl, tpd _ _ hdt11, ?_⟩, ?_, (tupR_m mvR_m).mono (.same sA) htr⟩
                · rw [ids_ext ext1 hin9]
                  exact ints_all _
                · show tupR mvR _ (msw.map (told PK15)) tw
                  rw [told_ext ext15 pi12]
                  exact (tupR_m mvR_m).mono (((Tp.same s14).trans tp15).trans (.same sA)) htw
              · show rows15.length ≤ 1000
                omega
              · refine ever_right ro15 dp.desc hbe (fun e he => mem_ext ext1 (hin9 e he)) pway hring (fun mv' hm' e he => ?_) (by simp [hmark])
                rcases List.mem_append.mp hm' with z | z
                · exact mem_ext ext15 (pi12 mv' z e he)
                · exact pi15 mv' z e he
end
end PW
end

section
set_option Elab.async false
set_option maxRecDepth 100000
set_option maxHeartbeats 4000000
set_option linter.all false
/-! Walks: Step.__init__, fits, Machine.__init__, _law_made. -/
namespace PW
open PySem L2 PX PR
section
variable {P : Program} {w : World} {K : PySem.W.Frag} {mg : Str → Option Value} {base : Heap} {c : Cs}
theorem stBinds {f : Addr} {fd : FuncData} {a : Addr} (F : FunD K "__init__" "Step.__init__" (defArgs sStInit) (defBody sStInit) (defScope sStInit) [.ref a, .int 1] [] f fd) : Binds K fd ["self", "state", "letter", "goal", "laid", "weight"] [] := by
  obtain ⟨ds, hv, hb⟩ := F.binds1 (ps := ["self", "state", "letter", "goal", "laid", "weight"]) 6 2 (by simp) rfl fun T kV doc pm an cdv ct us its hl hi => match us, its, hl, hi with
    | [_, _, _, _, _, _], [_, _], _, _ => ⟨_, rfl, rfl⟩
  cases hv
  exact hb
def spStInit (c : Cs) : Sp := fun vs H Q _ => ∃ (H0 : Hp) (p : Addr) (dx t : Addr) (st : Stp), vs = [.ref p, .int st.s, .int st.l, .int st.g, .ref t, .int st.w] ∧ Same H0 H ∧ H0 p = none ∧ H0 t = some (.tup (st.laid.map V.int)) ∧ H p = some (.ins c.st dx []) ∧
  ∀ H', Same H0 H' → stepR c H' st (.ref p) → Q .non H'
theorem sc_stInit : FnScope ["self", "state", "letter", "goal", "laid", "weight"] ["self", "state", "letter", "goal", "laid", "weight"] (defScope sStInit) := ⟨rfl, rfl, rfl, by decide +kernel, rfl, by decide +kernel, by decide +kernel⟩
theorem ok_stInit (T : Txt K mg c) {f : Addr} {fd : FuncData} {a : Addr} (F : FunD K "__init__" "Step.__init__" (defArgs sStInit) (defBody sStInit) (defScope sStInit) [.ref a, .int 1] [] f fd) : FnOk P w K mg base CX0 1 f fd ["self", "state", "letter", "goal", "laid", "weight"] (spStInit c) := by
  refine F.ok sc_stInit (fun vs H Q E h => ?_) (fun cdv A outer s H vs Q E hr h => ?_)
  · obtain ⟨H0, p, dx, t, st, rfl, _⟩ := h
    rfl
  · obtain ⟨H0, p, dx, t, st, rfl, s0, p0, ht, hp, k⟩ := h
    have hu := hu_of hr
    refine ⟨_, (pss_cons (ps_fld (pv 0) (pv 1) rfl)
      (pss_cons (ps_fld (pv 0) (pv 2) rfl)
      (pss_cons (ps_fld (pv 0) (pv 3) rfl)
      (pss_cons (ps_fld (pv 0) (pe_callTy call_tupleT (by rfl) T.b (by decide +kernel) (pa_cons (pv 4) pa_nil)) rfl)
      (pss_one (ps_fld (pv 0) (pv 5) rfl)))))), ?_⟩
    have NA := T.st
    refine q_fldE (val_var rfl _ (val_var rfl _ ⟨p, c.st, dx, [], rfl, hp, NA.cl, NA.no _ (by simp), (by decide), ?_⟩))
    refine q_fldE (val_var rfl _ (val_var rfl _ ⟨p, c.st, dx, _, rfl, upd_same, NA.cl, NA.no _ (by simp), few (len_put (n := 0) (Nat.le_refl _)) (by decide), ?_⟩))
    rw [upd_upd]
    refine q_fldE (val_var rfl _ (val_var rfl _ ⟨p, c.st, dx, _, rfl, upd_same, NA.cl, NA.no _ (by simp), few (len_put (len_put (n := 0) (Nat.le_refl _))) (by decide), ?_⟩))
    rw [upd_upd]
    have ntp : t ≠ p := fun z => by rw [z, p0] at ht; cases ht
    refine q_fldE (e_cbE (v_cons (val_var rfl) (v_nil ⟨t, _, rfl, SqT.of (by rw [upd_ne ntp]; exact s0 _ _ ht), val_var rfl _ ⟨p, c.st, dx, _, rfl, upd_same, NA.cl, NA.no _ (by simp), few (len_put (len_put (len_put (n := 0) (Nat.le_refl _)))) (by decide), ?_⟩⟩)))
    rw [upd_upd]
    refine val_var rfl _ (val_var rfl _ ⟨p, c.st, dx, _, rfl, upd_same, NA.cl, NA.no _ (by simp), few (len_put (len_put (len_put (len_put (n := 0) (Nat.le_refl _))))) (by decide), ?_⟩)
    rw [upd_upd]
    exact k _ (sm_own s0 p0) ⟨p, dx, t, rfl, upd_same, by rw [upd_ne ntp]; exact s0 _ _ ht⟩
/-! ### comprehensions that make objects -/
structure MonoO {α : Type} (R : Rp α) : Prop where
  mono : ∀ {H H' : Hp} {a : α} {v : V}, Lo H H' → R H a v → R H' a v
theorem stepR_o {c : Cs} : MonoO (stepR c) := ⟨fun e h => stepR_lo e h⟩
theorem blR_o : MonoO blR := ⟨fun _ h => h⟩
theorem e_lcLo {β : Type} {σ : L2.St} {H : Hp} {ta te : TE} {g : TG} {Q : VK} (R : Rp β) (m : MonoO R) {ns : List Nat} {a : Addr} {xs : List V} (bs : List β) (ha : Val ta σ H (.ref a)) (hx : H a = some (.lst xs)) (hlen : bs.length = xs.length) (hbig : xs.length ≤ 100000)
    (hs : ∀ (i : Nat) (x : V) (b : β) (H' : Hp) (Q : VK), xs[i]? = some x → bs[i]? = some b → Same H H' → (∀ y H4, Same H' H4 → R H4 b y → Q y H4) → g x (wipe σ ns) H' fun σ2 H2 => wipe σ2 ns = wipe σ ns ∧ te σ2 H2 Q)
    (q : ∀ Dd H' acc, Same H H' → H Dd = none → H' Dd = some (.lst acc) → All R H' bs acc → Q (.ref Dd) H') : tLc (iList K ta) g tYes te ns σ H Q := by
  have monoA : ∀ {H H' : Hp} {as : List β} {xs : List V}, Lo H H' → All R H as xs → All R H' as xs := fun e h => Paired.mapP h fun _ _ z => m.mono e z
  refine ha _ ⟨a, rfl, ⟨xs, SqL.of hx⟩, fun Dd hD => ?_⟩
  refine lc_list (fun i H' => Same H H' ∧ ∃ acc, H' Dd = some (.lst acc) ∧ All R H' (bs.take i) acc) ⟨sm_up hD, [], upd_same, .nil⟩ (fun i H' _ p => SqL.of (p.1 _ _ hx)) (fun i x H' hxi p => ?_) (fun H' p => ?_)
  · obtain ⟨sm, acc, h1, h2⟩ := p
    obtain ⟨b, hb⟩ : ∃ b, bs[i]? = some b := ⟨_, List.getElem?_eq_getElem (by have := (List.getElem?_eq_some_iff.mp hxi).1; omega)⟩
    have hi : i < xs.length := (List.getElem?_eq_some_iff.mp hxi).1
    have hl : acc.length = i := by rw [← h2.len, List.length_take]; omega
    refine hs i x b H' _ hxi hb sm fun y H4 s4 hy => ?_
    have lo : Lo H4 (upd H4 Dd (.lst (acc ++ [y]))) := .lst (s4 _ _ h1)
    refine ⟨acc, s4 _ _ h1, Nat.lt_of_lt_of_le (by omega : acc.length < 100000) (by decide), sm_own (sm.trans s4) hD, _, upd_same, ?_⟩
    rw [take_succ' hb]
    exact All.snoc (monoA ((Lo.same s4).trans lo) h2) (m.mono lo hy)
  · obtain ⟨sm, acc, h1, h2⟩ := p
    rw [← hlen, List.take_length] at h2
    exact q Dd H' acc sm hD h1 h2
/-! ### fits -/
def Fit (M : Mach) (p : Stp) : Prop := 0 ≤ p.s ∧ p.s < M.st ∧ 0 ≤ p.l ∧ p.l < M.lt ∧ 0 ≤ p.g ∧ p.g < M.st ∧ p.laid.length ≤ 2 ∧ (∀ x ∈ p.laid, 0 ≤ x ∧ x < M.lt) ∧ 0 ≤ p.w
def spFits (c : Cs) : Sp := fun vs H Q _ => ∃ (M : Mach) (p : Stp) (sv : V), vs = [sv, .int M.st, .int M.lt] ∧ stepR c H p sv ∧ Fit M p ∧ ∀ H', Same H H' → Q (.bl true) H'
theorem sc_fits : FnScope ["step", "states", "letters", "letter"] ["step", "states", "letters"] (defScope sFits) := ⟨rfl, rfl, rfl, by decide +kernel, rfl, by decide +kernel, by decide +kernel⟩
theorem ok_fits (T : Txt K mg c) {f : Addr} {fd : FuncData} (F : Fun K "fits" "fits" sFits f fd) : FnOk P w K mg base CX0 1 f fd ["step", "states", "letters"] (spFits c) := by
  refine F.ok sc_fits (fun vs H Q E h => ?_) (fun cdv A outer s H vs Q E hr h => ?_)
  · obtain ⟨M, p, sv, rfl, _⟩ := h
    rfl
  · obtain ⟨M, p, sv, rfl, ⟨sa, sd, tl, rfl, hsa, htl⟩, ⟨h1, h2, h3, h4, h5, h6, h7, h8, h9⟩, k⟩ := h
    have hu := hu_of hr
    refine ⟨_, (pss_cons (ps_if (PW.pt (pw_or (pt_not (pt_chain op_le op_lt pe_int (pe_fld (pv 0) rfl) (pv 1))) (pw_or (pt_not (pt_chain op_le op_lt pe_int (pe_fld (pv 0) rfl) (pv 1))) (pw_or1 (pt_not (pt_chain op_le op_lt pe_int (pe_fld (pv 0) rfl) (pv 2)))))))
          (pss_one (ps_ret pe_bl))
          pss_nil)
      (pss_cons (ps_if (PW.pt (pw_or (pt_cmpR op_gt (pe_callB call_len_seq (by rfl) T.b PySem.boot_len (pa_cons (pe_fld (pv 0) rfl) pa_nil)) pe_int (nomark _)) (pw_or1 (pt_cmpR op_lt (pe_fld (pv 0) rfl) pe_int (nomark _)))))
          (pss_one (ps_ret pe_bl))
          pss_nil)
      (pss_one (ps_ret (pe_callB (cr_all rfl) (by rfl) T.b (by decide +kernel) (pa_cons (pe_lc (own := [("letter", 3)]) (tt := tYes) (te := tChain (rI0 fun i j => V.bl (decide (i ≤ j))) (rI0 fun i j => V.bl (decide (i < j))) (tC (.int 0)) (tVar 3) (tVar 2)) rfl sc_fits.nd (pi_tup (pe_fld (pv 0) rfl)) (blkOk_by (N := ["step", "states", "letters", "letter"]) (sc := defScope sFits) (by decide +kernel)) (fun _ _ _ _ _ => (pg_name (i := 3) sc_fits.nd rfl (by first | exact Or.inl rfl | exact Or.inr rfl))) (fun _ _ _ _ _ => pts_nil) (fun _ _ _ _ _ => (pe_chain op_le op_lt pe_int (pv 3) (pv 2)))) pa_nil)))))), ?_⟩
    have fl : ∀ {σ : L2.St} {fn : Str} {v : V}, σ[0]? = some (some (.ref sa)) → fn ∈ (["state", "letter", "goal", "laid", "weight"] : List Str) → (stepF p tl).lookup fn = some v → Val (tFld K (tVar 0) fn) σ H v := fun e hm hl => st_fld T hsa (val_var e) hm hl
    refine q_when (b := (!decide (0 ≤ p.s ∧ p.s < M.st)) || ((!decide (0 ≤ p.g ∧ p.g < M.st)) || !decide (0 ≤ p.l ∧ p.l < M.lt))) (a_or (a_not (a_test (v_chain val_c (fl rfl (by simp) (stepF_state _ _)) (val_var rfl)))) fun _ => a_or (a_not (a_test (v_chain val_c (fl rfl (by simp) (stepF_goal _ _)) (val_var rfl)))) fun _ => a_not (a_test (v_chain val_c (fl rfl (by simp) (stepF_letter _ _)) (val_var rfl)))) (fun z => by simp [h1, h2, h3, h4, h5, h6] at z) (fun _ => ?_)
    refine q_when (b := decide ((2 : Int) < ((p.laid.map V.int).length : Nat)) || decide (p.w < 0)) (a_or (a_test (v_gt (v_len (fl rfl (by simp) (stepF_laid _ _)) (.inr (SqT.of htl))) val_c)) fun _ => a_test (v_lt (fl rfl (by simp) (stepF_weight _ _)) val_c)) (fun z => by simp at z; omega) (fun _ => ?_)
    refine s_retE (tcons_E (e_lcT blR blR_m (p.laid.map fun _ => true) (fl rfl (by simp) (stepF_laid _ _)) htl (by simp) (by rw [List.length_map]; omega) (fun i x b H' Q' hx hb sm kq => ?_) fun Dd H' acc sm hD hD2 hacc => ?_))
    · obtain ⟨n, hn, rfl⟩ := ints_get hx
      have hm := h8 n (List.mem_of_getElem? hn)
      rw [List.getElem?_map, hn] at hb
      cases hb
      refine g_name ⟨rfl, v_chain val_c (val_var rfl) (val_var rfl) _ ?_⟩
      rw [decide_eq_true hm]
      exact kq _ _ (Same.refl _) rfl
    · have e := all_bls hacc
      subst e
      refine ⟨Dd, _, rfl, SqL.of hD2, ?_⟩
      have : ((p.laid.map fun _ => true).all id) = true := by simp
      rw [this]
      exact k _ sm
/-! ### Machine -/
def MachFit (M : Mach) : Prop := M.Ok ∧ ∀ p ∈ M.steps, Fit M p
def spMaInit (c : Cs) : Sp := fun vs H Q _ => ∃ (H0 : Hp) (M : Mach) (p dx sl : Addr) (xs : List V), vs = [.ref p, .int M.st, .int M.lt, .ref sl] ∧ Same H0 H ∧ H0 p = none ∧ H0 sl = some (.lst xs) ∧ All (stepR c) H0 M.steps xs ∧ MachFit M ∧ H p = some (.ins c.ma dx []) ∧
  ∀ H', Same H0 H' → machR c H' M (.ref p) → Q .non H'
theorem sc_maInit : FnScope ["self", "states", "letters", "steps", "step"] ["self", "states", "letters", "steps"] (defScope sMaInit) := ⟨rfl, rfl, rfl, by decide +kernel, rfl, by decide +kernel, by decide +kernel⟩
theorem ok_maInit (T : Txt K mg c) {f : Addr} {fd : FuncData} (F : Fun K "__init__" "Machine.__init__" sMaInit f fd) : FnOk P w K mg base CX0 2 f fd ["self", "states", "letters", "steps"] (spMaInit c) := by
  obtain ⟨f1, fd1, F1, b1, m1⟩ := T.fits
  have G1 : FnOk P w K mg base CX0 1 f1 fd1 ["step", "states", "letters"] (spFits c) := ok_fits T F1
  refine F.ok sc_maInit (fun vs H Q E h => ?_) (fun cdv A outer s H vs Q E hr h => ?_)
  · obtain ⟨H0, M, p, dx, sl, xs, rfl, _⟩ := h
    rfl
  · obtain ⟨H0, M, p, dx, sl, xs, rfl, s0, p0, hsl, hxs, ⟨ok, hfit⟩, hp, k⟩ := h
    have hu := hu_of hr
    refine ⟨_, (pss_cons (ps_if (PW.pt (pw_or (pt_cmpR op_lt (pv 1) pe_int (nomark _)) (pw_or (pt_cmpR op_lt (pv 2) pe_int (nomark _)) (pw_or1 (pt_not (pt_val (pe_callB (cr_all rfl) (by rfl) T.b (by decide +kernel) (pa_cons (pe_lc (own := [("step", 4)]) (tt := tYes) (te := tCall (spFits c) [] _ (tCons (tVar 4) (tCons (tVar 1) (tCons (tVar 2) tNil)))) rfl sc_maInit.nd (pi_list (pv 3)) (blkOk_by (N := ["self", "states", "letters", "steps", "step"]) (sc := defScope sMaInit) (by decide +kernel)) (fun _ _ _ _ _ => (pg_name (i := 4) sc_maInit.nd rfl (by first | exact Or.inl rfl | exact Or.inr rfl))) (fun _ _ _ _ _ => pts_nil) (fun _ _ _ _ _ => (pe_call G1 hr (by rfl) m1 F1.kp b1 .nil pass0 (pa_cons (pv 4) (pa_cons (pv 1) (pa_cons (pv 2) pa_nil)))))) pa_nil))))))))
          (pss_one ps_never)
          pss_nil)
      (pss_cons (ps_fld (pv 0) (pv 1) rfl)
      (pss_cons (ps_fld (pv 0) (pv 2) rfl)
      (pss_one (ps_fld (pv 0) (pe_callTy call_tuple_of (by rfl) T.b (by decide +kernel) (pa_cons (pv 3) pa_nil)) rfl))))), ?_⟩
    have hsl1 := s0 _ _ hsl
    have st1 := ok.st1
    have lt1 := ok.lt1
    refine q_whenE (a_orE (a_test (v_lt (val_var rfl) val_c) _ ?_))
    rw [decide_eq_false (by omega : ¬ M.st < 1)]
    refine iteF (a_orE (a_test (v_lt (val_var rfl) val_c) _ ?_))
    rw [decide_eq_false (by omega : ¬ M.lt < 1)]
    refine iteF (a_notE (a_bE (e_cbE (tcons_E (e_lcLo blR blR_o (M.steps.map fun _ => true) (val_var rfl) hsl1 (by rw [List.length_map]; exact hxs.len) (by rw [← hxs.len]; have := ok.n10; omega) (fun i x b H' Q' hx hb sm kq => ?_) fun Dd H1 acc s1 hD hD2 hacc => ?_)))))
    · obtain ⟨st, hst, hstr⟩ := hxs.get' hx
      rw [List.getElem?_map, hst] at hb
      cases hb
      exact g_name ⟨rfl, e_call (va_cons (val_var rfl) (va_cons (val_var rfl) (va_cons (val_var rfl) va_nil))) ⟨M, st, x, rfl, stepR_m.mono (.same (s0.trans sm)) hstr, hfit st (List.mem_of_getElem? hst), fun H2 s2 => kq _ _ s2 rfl⟩⟩
    · have e := all_bls hacc
      subst e
      refine v_nil ⟨Dd, _, rfl, SqL.of hD2, ?_⟩
      have : ((M.steps.map fun _ => true).all id) = true := by simp
      rw [this]
      refine ⟨true, rfl, iteF ?_⟩
      have NA := T.ma
      have nDp : Dd ≠ p := fun z => by rw [z, hp] at hD; cases hD
      have hp1 := s1 _ _ hp
      have s01 := s0.trans s1
      refine q_fldE (val_var rfl _ (val_var rfl _ ⟨p, c.ma, dx, [], rfl, hp1, NA.cl, NA.no _ (by simp), (by decide), ?_⟩))
      refine q_fldE (val_var rfl _ (val_var rfl _ ⟨p, c.ma, dx, _, rfl, upd_same, NA.cl, NA.no _ (by simp), few (len_put (n := 0) (Nat.le_refl _)) (by decide), ?_⟩))
      rw [upd_upd]
      have nsp : sl ≠ p := fun z => by rw [z, p0] at hsl; cases hsl
      have hsl2 : (upd H1 p (.ins c.ma dx (putF "letters" (.int M.lt) (putF "states" (.int M.st) [])))) sl = some (.lst xs) := by rw [upd_ne nsp]; exact s01 _ _ hsl
      refine e_cbE (v_cons (val_var rfl) (v_nil ⟨sl, xs, rfl, .inl ⟨SqL.of hsl2, fun tt htt => ?_⟩⟩))
      have ntp : tt ≠ p := fun z => by rw [z, upd_same] at htt; cases htt
      refine val_var rfl _ ⟨p, c.ma, dx, _, rfl, by rw [upd_ne ntp.symm, upd_same], NA.cl, NA.no _ (by simp), few (len_put (len_put (n := 0) (Nat.le_refl _))) (by decide), ?_⟩
      have htt0 : H0 tt = none := s01.free (by rw [upd_ne ntp] at htt; exact htt)
      have sm : Same H0 (upd (upd (upd H1 p (.ins c.ma dx (putF "letters" (.int M.lt) (putF "states" (.int M.st) [])))) tt (.tup xs)) p (.ins c.ma dx (machF M tt))) := sm_own (sm_own (sm_own s01 p0) htt0) p0
      exact k _ sm ⟨p, dx, tt, rfl, upd_same, xs, by rw [upd_ne ntp, upd_same], Paired.mapP hxs fun _ _ z => stepR_m.mono (.same sm) z⟩
/-! ### _law_made -/
def rowT : Rp Stp := fun H p v => ∃ a t, v = .ref a ∧ H a = some (.tup [.int p.s, .int p.l, .int p.g, .ref t, .int p.w]) ∧ H t = some (.tup (p.laid.map V.int))
theorem rowT_m : MonoT rowT := ⟨fun e ⟨a, t, h1, h2, h3⟩ => ⟨a, t, h1, e a _ h2, e t _ h3⟩⟩
def spMade (c : Cs) : Sp := fun vs H Q _ => ∃ (M : Mach) (pa rl : Addr) (xs : List V), vs = [.ref pa] ∧ H pa = some (.lst [.int M.st, .int M.lt, .ref rl]) ∧ H rl = some (.lst xs) ∧ All rowT H M.steps xs ∧ MachFit M ∧
  ∀ m H', Same H H' → machR c H' M m → Q m H'
theorem sc_made : FnScope ["_law_parts", "_law_row"] ["_law_parts"] (defScope sMade) := ⟨rfl, rfl, rfl, by decide +kernel, rfl, by decide +kernel, by decide +kernel⟩
theorem ok_made (T : Txt K mg c) {f : Addr} {fd : FuncData} (F : Fun K "_law_made" "_law_made" sMade f fd) : FnOk P w K mg base CX0 4 f fd ["_law_parts"] (spMade c) := by
  obtain ⟨f1, fd1, F1, b1, m1⟩ := T.maInit
  obtain ⟨f2, fd2, sa, F2, b2, m2⟩ := T.stInit
  have G1 : FnOk P w K mg base CX0 2 f1 fd1 ["self", "states", "letters", "steps"] (spMaInit c) := ok_maInit T F1
  have G2 : FnOk P w K mg base CX0 1 f2 fd2 ["self", "state", "letter", "goal", "laid", "weight"] (spStInit c) := ok_stInit T F2
  refine F.ok sc_made (fun vs H Q E h => ?_) (fun cdv A outer s H vs Q E hr h => ?_)
  · obtain ⟨M, pa, rl, xs, rfl, _⟩ := h
    rfl
  · obtain ⟨M, pa, rl, xs, rfl, hpa, hrl, hxs, hfit, k⟩ := h
    have hu := hu_of hr
    have hr2 : Room 2 _ := hr.mono (by decide)
    refine ⟨_, (pss_one (ps_ret (pe_make m1 G1 hr (by rfl) T.mma b1 .nil pass0 (pa_cons (pe_ix ix_list (pv 0) pe_int (fun _ _ => rfl)) (pa_cons (pe_ix ix_list (pv 0) pe_int (fun _ _ => rfl)) (pa_cons (pe_lc (own := [("_law_row", 1)]) (tt := tYes) (te := tMake c.st (spStInit c) [] _ (tCons (tOp (rIxT K) (tVar 1) (tC (.int 0))) (tCons (tOp (rIxT K) (tVar 1) (tC (.int 1))) (tCons (tOp (rIxT K) (tVar 1) (tC (.int 2))) (tCons (tOp (rIxT K) (tVar 1) (tC (.int 3))) (tCons (tOp (rIxT K) (tVar 1) (tC (.int 4))) tNil)))))) rfl sc_made.nd (pi_list (pe_ix ix_list (pv 0) pe_int (fun _ _ => rfl))) (blkOk_by (N := ["_law_parts", "_law_row"]) (sc := defScope sMade) (by decide +kernel)) (fun _ _ _ _ _ => (pg_name (i := 1) sc_made.nd rfl (by first | exact Or.inl rfl | exact Or.inr rfl))) (fun _ _ _ _ _ => pts_nil) (fun _ _ _ _ _ => (pe_make m2 G2 hr2 (by rfl) T.mst b2 .nil pass0 (pa_cons (pe_ix ix_tup (pv 1) pe_int (fun _ _ => rfl)) (pa_cons (pe_ix ix_tup (pv 1) pe_int (fun _ _ => rfl)) (pa_cons (pe_ix ix_tup (pv 1) pe_int (fun _ _ => rfl)) (pa_cons (pe_ix ix_tup (pv 1) pe_int (fun _ _ => rfl)) (pa_cons (pe_ix ix_tup (pv 1) pe_int (fun _ _ => rfl)) pa_nil)))))))) pa_nil)))))), ?_⟩
    have hn := hfit.1.n10
    have e_makeE : ∀ {σ : L2.St} {H : Hp} {C : Addr} {sp : Sp} {dvs : List V} {E : XK} {t : TA} {Q : VK}, (t σ H fun vs H1 => ∀ x dx, H1 x = none → H1 dx = none → dx ≠ x → sp (.ref x :: (vs ++ dvs)) (upd (upd H1 dx (.own x)) x (.ins C dx [])) (fun v H2 => v = .non ∧ Q (.ref x) H2) E) → tMake C sp dvs E t σ H Q := fun h => h
    refine s_retE (e_makeE (v_cons (v_ixL (val_var rfl) val_c hpa (atI_nat (j := 0) rfl)) (v_cons (v_ixL (val_var rfl) val_c hpa (atI_nat (j := 1) rfl)) (tcons_E (e_lcLo (stepR c) stepR_o M.steps (v_ixL (val_var rfl) val_c hpa (atI_nat (j := 2) rfl)) hrl hxs.len (by rw [← hxs.len]; omega) (fun i x b H' Q' hx hb sm kq => ?_) fun Dd H1 acc s1 hD hD2 hacc => ?_)))))
    · obtain ⟨st, hst, ra, rt, rfl, hra, hrt⟩ := hxs.get' hx
      have hb' : st = b := Option.some.inj (hst.symm.trans hb)
      subst hb'
      have hra' := sm _ _ hra
      refine g_name ⟨rfl, e_make (va_cons (v_ixT (val_var rfl) val_c hra' (atI_nat (j := 0) rfl)) (va_cons (v_ixT (val_var rfl) val_c hra' (atI_nat (j := 1) rfl)) (va_cons (v_ixT (val_var rfl) val_c hra' (atI_nat (j := 2) rfl)) (va_cons (v_ixT (val_var rfl) val_c hra' (atI_nat (j := 3) rfl)) (va_cons (v_ixT (val_var rfl) val_c hra' (atI_nat (j := 4) rfl)) va_nil))))) fun xo dxo hxo hdxo nxo => ?_⟩
      exact ⟨H', xo, dxo, rt, st, rfl, sm_own (sm_up hdxo) hxo, hxo, sm _ _ hrt, upd_same, fun H2 s2 hst2 => ⟨rfl, kq _ _ s2 hst2⟩⟩
    · refine v_nil fun xo dxo hxo hdxo nxo => ?_
      exact ⟨H1, M, xo, dxo, Dd, acc, rfl, sm_own (sm_up hdxo) hxo, hxo, hD2, hacc, hfit, upd_same, fun H2 s2 hm => ⟨rfl, k _ _ (s1.trans s2) hm⟩⟩
end
end PW
end

section
set_option Elab.async false
set_option maxRecDepth 100000
set_option maxHeartbeats 4000000
set_option linter.all false
/-! Walks: the law's helpers. -/
namespace PW
open PySem L2 PX PR
section
variable {P : Program} {w : World} {K : PySem.W.Frag} {mg : Str → Option Value} {base : Heap} {c : Cs}
theorem SqL.same {H H' : Hp} {a : Addr} {xs : List V} (e : Same H H') (h : SqL K H a xs) : SqL K H' a xs := by
  rcases h with (h | ⟨o, h⟩) | h
  · exact .inl (.inl (e _ _ h))
  · exact .inl (.inr ⟨o, e _ _ h⟩)
  · exact .inr h
theorem v_ixLq {σ : L2.St} {H : Hp} {ta tb : TE} {p : Addr} {xs : List V} {i : Int} {v : V} (ha : Val ta σ H (.ref p)) (hb : Val tb σ H (.int i)) (hs : SqL K H p xs) (hi : atI xs i = some v) : Val (tOp (rIxL K) ta tb) σ H v := val_op ha hb fun Q q => ⟨p, xs, i, v, rfl, rfl, hs, hi, q⟩
theorem v_mul {σ : L2.St} {H : Hp} {ta tb : TE} {i j : Int} (ha : Val ta σ H (.int i)) (hb : Val tb σ H (.int j)) (h : (-(2 ^ 64) < i ∧ i < 2 ^ 64) ∨ (-(2 ^ 64) < j ∧ j < 2 ^ 64)) : Val (tOp (rI CMul fun i j => V.int (i * j)) ta tb) σ H (.int (i * j)) := val_op ha hb fun Q q => ⟨i, j, rfl, rfl, h, q⟩
theorem v_mod {σ : L2.St} {H : Hp} {ta tb : TE} {i j : Int} (ha : Val ta σ H (.int i)) (hb : Val tb σ H (.int j)) (h : 0 < j) : Val (tOp (rI (fun _ j => 0 < j) fun i j => V.int (i % j)) ta tb) σ H (.int (i % j)) := val_op ha hb fun Q q => ⟨i, j, rfl, rfl, h, q⟩
theorem v_div {σ : L2.St} {H : Hp} {ta tb : TE} {i j : Int} (ha : Val ta σ H (.int i)) (hb : Val tb σ H (.int j)) (h : 0 < j) (h2 : j < 1073741824) : Val (tOp (rI CDiv fun i j => V.int (i / j)) ta tb) σ H (.int (i / j)) := val_op ha hb fun Q q => ⟨i, j, rfl, rfl, ⟨h, h2⟩, q⟩
theorem v_pow {σ : L2.St} {H : Hp} {ta tb : TE} {i j : Int} (ha : Val ta σ H (.int i)) (hb : Val tb σ H (.int j)) (h : 0 ≤ j ∧ j ≤ 1000000 ∧ i.natAbs < 2 ^ 64) : Val (tOp (rI CPow fun i j => V.int (i ^ j.toNat)) ta tb) σ H (.int (i ^ j.toNat)) := val_op ha hb fun Q q => ⟨i, j, rfl, rfl, h, q⟩
theorem q_whenSet {σ : L2.St} {H : Hp} {c : TT} {te : TE} {i : Nat} {tu : TS} {D : Ends} {b : Bool} {v : V} (h : Ans c σ H b) (hv : b = true → Val te σ H v) (q : ∀ σ', (σ' = σ ∨ σ' = σ.set i (some v)) → tu D σ' H) : tSeq (tIfS c (tAsg te (gName i)) tNext) tu D σ H :=
  q_when h (fun hb => s_set (hv hb) (q _ (.inr rfl))) fun _ => q _ (.inl rfl)
def Num (v : Int) : Prop := 0 ≤ v ∧ v < 1000000
theorem num_mod (i : Int) : Num (i % 1000000) := ⟨Int.emod_nonneg _ (by decide), Int.emod_lt_of_pos _ (by decide)⟩
def spNumbers (K : PySem.W.Frag) : Sp := fun vs H Q _ => ∃ (a : Addr) (ns : List Int), vs = [.ref a, .int 16] ∧ SqL K H a (ns.map V.int) ∧ ns.length ≤ 100 ∧
  ∀ q (vals : List Int) H', Same H H' → H' q = some (.lst (vals.map V.int)) → vals.length = 16 → (∀ v ∈ vals, Num v) → Q (.ref q) H'
theorem sc_numbers : FnScope ["_law_script", "_law_count", "_law_rest", "_law_by_digits", "_law_numbers_here", "_law_k", "_law_cell"] ["_law_script", "_law_count"] (defScope sNumbers) := ⟨rfl, rfl, rfl, by decide +kernel, rfl, by decide +kernel, by decide +kernel⟩
theorem ok_numbers (T : Txt K mg c) {f : Addr} {fd : FuncData} (F : Fun K "_law_numbers" "_law_numbers" sNumbers f fd) : FnOk P w K mg base CX0 1 f fd ["_law_script", "_law_count"] (spNumbers K) := by
  refine F.ok sc_numbers (fun vs H Q E h => ?_) (fun cdv A outer s H vs Q E hr h => ?_)
  · obtain ⟨a, ns, rfl, _⟩ := h
    rfl
  · obtain ⟨a, ns, rfl, hq, hnl, k⟩ := h
    have hu := hu_of hr
    refine ⟨_, (pss_cons (ps_set (i := 2) sc_numbers.nd rfl (by first | exact Or.inl rfl | exact Or.inr rfl) pe_int)
      (pss_cons (ps_if (pt_cmpR op_gt (pe_callB call_len_seq (by rfl) T.b PySem.boot_len (pa_cons (pv 0) pa_nil)) pe_int (nomark _))
          (pss_one (ps_set (i := 2) sc_numbers.nd rfl (by first | exact Or.inl rfl | exact Or.inr rfl) (pe_ix ix_list (pv 0) pe_int (fun _ _ => rfl))))
          pss_nil)
      (pss_cons (ps_set (i := 3) sc_numbers.nd rfl (by first | exact Or.inl rfl | exact Or.inr rfl) (pe_cmpR op_ge (pv 2) (pe_op op_pow pe_int pe_int) (nomark _)))
      (pss_cons (ps_set (i := 4) sc_numbers.nd rfl (by first | exact Or.inl rfl | exact Or.inr rfl) (pe_lst pa_nil))
      (pss_cons (ps_for PassesOwn.never rfl (pi_range1 (by rfl) T.b (pa_cons (pv 1) pa_nil)) (pg_name (i := 5) sc_numbers.nd rfl (by first | exact Or.inl rfl | exact Or.inr rfl))
          (pss_one (ps_if (PW.pt (pw_and (pt_val (pv 3)) (pw_and1 (pt_cmpR op_gt (pv 2) pe_int (nomark _)))))
              (pss_cons (ps_expr (pe_bm PySem.F.plainAttrs_list PySem.F.slot_list_append PySem.F.type_list_append mt_append (pv 4) (pa_cons (pe_op op_mod (pv 2) pe_int) pa_nil)))
                (pss_one (ps_set (i := 2) sc_numbers.nd rfl (by first | exact Or.inl rfl | exact Or.inr rfl) (pe_op op_fdiv (pv 2) pe_int))))
              (pss_cons (ps_set (i := 6) sc_numbers.nd rfl (by first | exact Or.inl rfl | exact Or.inr rfl) pe_int)
                (pss_cons (ps_if (pt_cmpR op_gt (pe_callB call_len_seq (by rfl) T.b PySem.boot_len (pa_cons (pv 0) pa_nil)) pe_int (nomark _))
                    (pss_one (ps_set (i := 6) sc_numbers.nd rfl (by first | exact Or.inl rfl | exact Or.inr rfl) (pe_op op_add (pe_ix ix_list (pv 0) (pe_op op_mod (pv 5) (pe_callB call_len_seq (by rfl) T.b PySem.boot_len (pa_cons (pv 0) pa_nil))) (fun _ _ => rfl)) (pe_op op_mul pe_int (pv 5)))))
                    pss_nil)
                (pss_one (ps_expr (pe_bm PySem.F.plainAttrs_list PySem.F.slot_list_append PySem.F.type_list_append mt_append (pv 4) (pa_cons (pe_op op_mod (pe_op op_mod (pe_op op_mul (pe_op op_mod (pe_op op_mul (pv 6) pe_int) pe_int) pe_int) pe_int) pe_int) pa_nil)))))))))
      (pss_one (ps_ret (pv 4)))))))), ?_⟩
    refine q_set val_c ?_
    have vlen : ∀ {σ : L2.St} {H' : Hp}, Same H H' → σ[0]? = some (some (.ref a)) → Val (tCB (fun xs H Q => ∃ p ys, xs = [V.ref p] ∧ (SqL K H p ys ∨ SqT K H p ys) ∧ Q (.int ys.length) H) (tCons (tVar 0) tNil)) σ H' (.int (ns.length : Nat)) := fun sm e => by
      have := v_len (K := K) (val_var (σ := _) e) (.inl (SqL.same sm hq))
      rwa [List.length_map] at this
    have at0 : ∀ {i : Nat}, i < ns.length → (ns.map V.int)[i]? = some (.int (ns.getD i 0)) := fun {i} hi => by
      rw [List.getElem?_map, List.getD_eq_getElem?_getD, List.getElem?_eq_getElem hi]; rfl
    refine q_whenSet (b := decide ((0 : Int) < (ns.length : Nat))) (v := .int (ns.getD 0 0)) (a_test (v_gt (vlen (Same.refl H) rfl) val_c)) (fun hb => v_ixLq (val_var rfl) val_c hq (atI_nat (j := 0) (at0 (by have := of_decide_eq_true hb; omega)))) fun σ' hσ => ?_
    obtain ⟨r, rfl⟩ : ∃ r : Int, σ' = [some (.ref a), some (.int 16), some (.int r), none, none, none, none] := by
      rcases hσ with rfl | rfl
      · exact ⟨0, rfl⟩
      · exact ⟨_, rfl⟩
    refine q_set (v_ge (val_var rfl) (v_pow val_c val_c (by decide))) ?_
    generalize decide ((10 : Int) ^ (18 : Int).toNat ≤ r) = dg
    refine q_asgL va_nil fun q hq0 => ?_
    refine q_range1 (n := 16) (by decide) (val_var rfl) (fun i σ H' => Same H H' ∧ ∃ (r : Int) (vals : List Int) (o5 o6 : Option V), σ = [some (.ref a), some (.int 16), some (.int r), some (.bl dg), some (.ref q), o5, o6] ∧ H' q = some (.lst (vals.map V.int)) ∧ vals.length = i ∧ ∀ v ∈ vals, Num v)
      ⟨sm_up hq0, r, [], _, _, rfl, upd_same, rfl, by simp⟩ ?_ ?_
    · rintro i σ H1 hi ⟨s1, r, vals, o5, o6, rfl, hq1, hvl, hnum⟩
      have hsz : (vals.map V.int).length < sizeLine := big6 (by rw [List.length_map]; omega)
      have addn : ∀ v : Int, Num v → ∀ x ∈ vals ++ [v], Num x := fun v hv x hx => by
        rcases List.mem_append.mp hx with z | z
        · exact hnum x z
        · simp at z; subst z; exact hv
      have mapn : ∀ v : Int, vals.map V.int ++ [V.int v] = (vals ++ [v]).map V.int := fun v => by simp
      refine g_name ?_
      refine s_if (b := dg && decide ((0 : Int) < r)) (a_and (a_val (val_var rfl)) fun _ => a_test (v_gt (val_var rfl) val_c)) (fun _ => ?_) (fun _ => ?_)
      · refine q_append (val_var rfl) hq1 (v_mod (val_var rfl) val_c (by decide) _ ⟨_, hq1, hsz, ?_⟩)
        rw [mapn]
        refine s_set (v_div (val_var rfl) val_c (by decide) (by decide)) ?_
        exact ⟨sm_own s1 hq0, _, vals ++ [r % 1000000], _, _, rfl, upd_same, by simp [hvl], addn _ (num_mod _)⟩
      · refine q_set val_c ?_
        have hidx : ∀ _ : (0 : Int) < (ns.length : Nat), ∃ v, atI (ns.map V.int) (((i : Nat) : Int) % (ns.length : Nat)) = some (.int v) := fun h0 => by
          have e : (((i : Nat) : Int) % ((ns.length : Nat) : Int)) = ((i % ns.length : Nat) : Int) := by omega
          rw [e]
          exact ⟨_, atI_nat (at0 (Nat.mod_lt _ (by omega)))⟩
        have hv' : ∃ v0 : Int, ∀ _ : (0 : Int) < (ns.length : Nat), atI (ns.map V.int) (((i : Nat) : Int) % (ns.length : Nat)) = some (.int v0) := by
          by_cases h0 : (0 : Int) < (ns.length : Nat)
          · obtain ⟨v0, h⟩ := hidx h0; exact ⟨v0, fun _ => h⟩
          · exact ⟨0, fun z => absurd z h0⟩
        obtain ⟨v0, hv0⟩ := hv'
        refine q_whenSet (b := decide ((0 : Int) < (ns.length : Nat))) (v := .int (v0 + 7919 * (i : Nat))) (a_test (v_gt (vlen s1 rfl) val_c)) (fun hb => v_add (v_ixLq (val_var rfl) (v_mod (val_var rfl) (vlen s1 rfl) (of_decide_eq_true hb)) (SqL.same s1 hq) (hv0 (of_decide_eq_true hb))) (v_mul val_c (val_var rfl) (.inl ⟨by decide, by decide⟩))) fun σ' hσ => ?_
        obtain ⟨cell, rfl⟩ : ∃ cell : Int, σ' = [some (.ref a), some (.int 16), some (.int r), some (.bl dg), some (.ref q), some (.int (i : Nat)), some (.int cell)] := by
          rcases hσ with rfl | rfl
          · exact ⟨13, rfl⟩
          · exact ⟨_, rfl⟩
        have hm := fun j : Int => Int.emod_nonneg j (show (2147483647 : Int) ≠ 0 by decide)
        refine s_append (val_var rfl) hq1 (v_mod (v_mod (v_mul (v_mod (v_mul (val_var rfl) val_c (.inr ⟨by decide, by decide⟩)) val_c (by decide)) val_c (.inr ⟨by decide, by decide⟩)) val_c (by decide)) val_c (by decide) _ ⟨_, hq1, hsz, ?_⟩)
        rw [mapn]
        exact ⟨sm_own s1 hq0, _, vals ++ [_], _, _, rfl, upd_same, by simp [hvl], addn _ (num_mod _)⟩
    · rintro σ H1 ⟨s1, r, vals, o5, o6, rfl, hq1, hvl, hnum⟩
      exact s_ret (val_var rfl) (k q vals _ s1 hq1 hvl hnum)
end
end PW
end

section
set_option Elab.async false
set_option maxRecDepth 100000
set_option maxHeartbeats 4000000
set_option linter.all false
/-! Walks: the law's rows, machine, configurations, marks. -/
namespace PW
open PySem L2 PX PR
section
variable {P : Program} {w : World} {K : PySem.W.Frag} {mg : Str → Option Value} {base : Heap} {c : Cs}
/-- within st states and lt letters -/
def FitB (st lt : Int) (p : Stp) : Prop := 0 ≤ p.s ∧ p.s < st ∧ 0 ≤ p.l ∧ p.l < lt ∧ 0 ≤ p.g ∧ p.g < st ∧ p.laid.length ≤ 2 ∧ (∀ x ∈ p.laid, 0 ≤ x ∧ x < lt) ∧ 0 ≤ p.w
def spRows : Sp := fun vs H Q _ => ∃ (na : Addr) (vals : List Int) (pl : Nat) (st lt : Int) (n : Nat), vs = [.ref na, .int (pl : Nat), .int st, .int lt, .int (n : Nat)] ∧ H na = some (.lst (vals.map V.int)) ∧ 1 ≤ st ∧ st ≤ 4 ∧ 1 ≤ lt ∧ lt ≤ 3 ∧ n ≤ 10 ∧ pl + n ≤ vals.length ∧
  ∀ q ys (steps : List Stp) H', Same H H' → H q = none → H' q = some (.lst ys) → All rowT H' steps ys → (∀ p ∈ steps, FitB st lt p) → steps.length = n → Q (.ref q) H'
theorem sc_rows : FnScope ["_law_numbers_here", "_law_place", "_law_states", "_law_letters", "_law_count", "_law_rows_here", "_law_i", "_law_number", "_law_size", "_law_laid", "_law_j", "_law_state", "_law_letter", "_law_goal"] ["_law_numbers_here", "_law_place", "_law_states", "_law_letters", "_law_count"] (defScope sRows) := ⟨rfl, rfl, rfl, by decide +kernel, rfl, by decide +kernel, by decide +kernel⟩
theorem ok_rows (T : Txt K mg c) {f : Addr} {fd : FuncData} (F : Fun K "_law_rows" "_law_rows" sRows f fd) : FnOk P w K mg base CX0 1 f fd ["_law_numbers_here", "_law_place", "_law_states", "_law_letters", "_law_count"] spRows := by
  refine F.ok sc_rows (fun vs H Q E h => ?_) (fun cdv A outer s H vs Q E hr h => ?_)
  · obtain ⟨na, vals, pl, st, lt, n, rfl, _⟩ := h
    rfl
  · obtain ⟨na, vals, pl, st, lt, n, rfl, hna, st1, st4, lt1, lt3, hn, hpl, k⟩ := h
    have hu := hu_of hr
    refine ⟨_, (pss_cons (ps_set (i := 5) sc_rows.nd rfl (by first | exact Or.inl rfl | exact Or.inr rfl) (pe_lst pa_nil))
      (pss_cons (ps_for PassesOwn.never rfl (pi_range1 (by rfl) T.b (pa_cons (pv 4) pa_nil)) (pg_name (i := 6) sc_rows.nd rfl (by first | exact Or.inl rfl | exact Or.inr rfl))
          (pss_cons (ps_set (i := 7) sc_rows.nd rfl (by first | exact Or.inl rfl | exact Or.inr rfl) (pe_ix ix_list (pv 0) (pe_op op_add (pv 1) (pv 6)) (fun _ _ => rfl)))
            (pss_cons (ps_set (i := 8) sc_rows.nd rfl (by first | exact Or.inl rfl | exact Or.inr rfl) (pe_ix ix_list (pe_lst (pa_cons pe_int (pa_cons pe_int (pa_cons pe_int (pa_cons pe_int (pa_cons pe_int pa_nil)))))) (pe_op op_mod (pv 7) pe_int) (fun _ _ => rfl)))
            (pss_cons (ps_set (i := 7) sc_rows.nd rfl (by first | exact Or.inl rfl | exact Or.inr rfl) (pe_op op_fdiv (pv 7) pe_int))
            (pss_cons (ps_set (i := 9) sc_rows.nd rfl (by first | exact Or.inl rfl | exact Or.inr rfl) (pe_lst pa_nil))
            (pss_cons (ps_for PassesOwn.never rfl (pi_range1 (by rfl) T.b (pa_cons (pv 8) pa_nil)) (pg_name (i := 10) sc_rows.nd rfl (by first | exact Or.inl rfl | exact Or.inr rfl))
                (pss_cons (ps_expr (pe_bm PySem.F.plainAttrs_list PySem.F.slot_list_append PySem.F.type_list_append mt_append (pv 9) (pa_cons (pe_op op_mod (pv 7) (pv 3)) pa_nil)))
                  (pss_one (ps_set (i := 7) sc_rows.nd rfl (by first | exact Or.inl rfl | exact Or.inr rfl) (pe_op op_fdiv (pv 7) (pv 3))))))
            (pss_cons (ps_set (i := 11) sc_rows.nd rfl (by first | exact Or.inl rfl | exact Or.inr rfl) (pe_op op_mod (pv 7) (pv 2)))
            (pss_cons (ps_set (i := 7) sc_rows.nd rfl (by first | exact Or.inl rfl | exact Or.inr rfl) (pe_op op_fdiv (pv 7) (pv 2)))
            (pss_cons (ps_set (i := 12) sc_rows.nd rfl (by first | exact Or.inl rfl | exact Or.inr rfl) (pe_op op_mod (pv 7) (pv 3)))
            (pss_cons (ps_set (i := 7) sc_rows.nd rfl (by first | exact Or.inl rfl | exact Or.inr rfl) (pe_op op_fdiv (pv 7) (pv 3)))
            (pss_cons (ps_set (i := 13) sc_rows.nd rfl (by first | exact Or.inl rfl | exact Or.inr rfl) (pe_op op_mod (pv 7) (pv 2)))
            (pss_one (ps_expr (pe_bm PySem.F.plainAttrs_list PySem.F.slot_list_append PySem.F.type_list_append mt_append (pv 5) (pa_cons (pe_tup (pa_cons (pv 11) (pa_cons (pv 12) (pa_cons (pv 13) (pa_cons (pe_callTy call_tuple_of (by rfl) T.b (by decide +kernel) (pa_cons (pv 9) pa_nil)) (pa_cons (pe_op op_mod (pe_op op_fdiv (pv 7) (pv 2)) pe_int) pa_nil)))))) pa_nil)))))))))))))))
      (pss_one (ps_ret (pv 5))))), ?_⟩
    refine q_asgL va_nil fun q hq => ?_
    refine q_range1 (n := n) (by omega) (val_var rfl) (fun i σ H' => Same H H' ∧ ∃ (steps : List Stp) (ys : List V) (o6 o7 o8 o9 o10 o11 o12 o13 : Option V), σ = [some (.ref na), some (.int (pl : Nat)), some (.int st), some (.int lt), some (.int (n : Nat)), some (.ref q), o6, o7, o8, o9, o10, o11, o12, o13] ∧ H' q = some (.lst ys) ∧ All rowT H' steps ys ∧ (∀ p ∈ steps, FitB st lt p) ∧ steps.length = i)
      ⟨sm_up hq, [], [], _, _, _, _, _, _, _, _, rfl, upd_same, .nil, by simp, rfl⟩ ?_ ?_
    · rintro i σ H1 hi ⟨s1, steps, ys, o6, o7, o8, o9, o10, o11, o12, o13, rfl, hq1, hall, hfit, hsl⟩
      refine g_name ?_
      have hat : atI (vals.map V.int) (((pl : Nat) : Int) + (i : Nat)) = some (.int (vals.getD (pl + i) 0)) := by
        rw [show ((pl : Nat) : Int) + (i : Nat) = ((pl + i : Nat) : Int) by omega]
        refine atI_nat ?_
        rw [List.getElem?_map, List.getD_eq_getElem?_getD, List.getElem?_eq_getElem (by omega)]; rfl
      refine q_set (v_ixL (val_var rfl) (v_add (val_var rfl) (val_var rfl)) (s1 _ _ hna) hat) ?_
      generalize vals.getD (pl + i) 0 = num
      -- the size: an item of a written list
      refine q_asg (e_opE (t_lst (va_cons val_c (va_cons val_c (va_cons val_c (va_cons val_c (va_cons val_c va_nil))))) fun zl hzl => ?_))
      have s2 : Same H1 (upd H1 zl (.lst [.int 0, .int 0, .int 1, .int 2, .int 2])) := sm_up hzl
      obtain ⟨sz, hsz, hszl⟩ : ∃ sz : Nat, atI [V.int 0, .int 0, .int 1, .int 2, .int 2] (num % 5) = some (.int (sz : Nat)) ∧ sz ≤ 2 := by
        have h0 : 0 ≤ num % 5 := Int.emod_nonneg _ (by decide)
        have h1 : num % 5 < 5 := Int.emod_lt_of_pos _ (by decide)
        have h2 : num % 5 = 0 ∨ num % 5 = 1 ∨ num % 5 = 2 ∨ num % 5 = 3 ∨ num % 5 = 4 := by omega
        rcases h2 with h | h | h | h | h
        · exact ⟨0, by rw [h]; rfl, by decide⟩
        · exact ⟨0, by rw [h]; rfl, by decide⟩
        · exact ⟨1, by rw [h]; rfl, by decide⟩
        · exact ⟨2, by rw [h]; rfl, by decide⟩
        · exact ⟨2, by rw [h]; rfl, by decide⟩
      refine v_mod (val_var rfl) val_c (by decide) _ ⟨zl, _, _, _, rfl, rfl, SqL.of upd_same, hsz, ?_⟩
      have hq2 := s2 _ _ hq1
      have hall2 := hall.mono rowT_m (.same s2)
      have s12 := s1.trans s2
      show tSeq _ _ _ _ (upd H1 zl (.lst [.int 0, .int 0, .int 1, .int 2, .int 2]))
      generalize upd H1 zl (.lst [.int 0, .int 0, .int 1, .int 2, .int 2]) = H2 at s2 hq2 hall2 s12
      refine q_set (v_div (val_var rfl) val_c (by decide) (by decide)) ?_
      refine q_asgL va_nil fun ll hll => ?_
      have nql : q ≠ ll := ne_of_none hq2 hll
      have hll0 : H ll = none := s12.free hll
      refine q_range1 (n := sz) (by omega) (val_var rfl) (fun j σ H' => Same H H' ∧ Tp H2 H' ∧ H' q = some (.lst ys) ∧ ∃ (num : Int) (laid : List Int) (o10 o11 o12 o13 : Option V), σ = [some (.ref na), some (.int (pl : Nat)), some (.int st), some (.int lt), some (.int (n : Nat)), some (.ref q), some (.int (i : Nat)), some (.int num), some (.int (sz : Nat)), some (.ref ll), o10, o11, o12, o13] ∧ H' ll = some (.lst (laid.map V.int)) ∧ laid.length = j ∧ ∀ x ∈ laid, 0 ≤ x ∧ x < lt)
        ⟨sm_new s12 hll, .new hll, sm_up hll _ _ hq2, _, [], _, _, _, _, rfl, upd_same, rfl, by simp⟩ ?_ ?_
      · rintro j σ H3 hj ⟨s3, t3, hq3, num, laid, o10, o11, o12, o13, rfl, hl3, hlj, hlr⟩
        refine g_name ?_
        refine q_append (val_var rfl) hl3 (v_mod (val_var rfl) (val_var rfl) (by omega) _ ⟨_, hl3, big6 (by rw [List.length_map]; omega), ?_⟩)
        have : laid.map V.int ++ [V.int (num % lt)] = (laid ++ [num % lt]).map V.int := by simp
        rw [this]
        have tp := Tp.lst (o := .lst ((laid ++ [num % lt]).map V.int)) hl3
        refine s_set (v_div (val_var rfl) (val_var rfl) (by omega) (by omega)) ⟨sm_own s3 hll0, t3.trans tp, by rw [upd_ne nql]; exact hq3, _, laid ++ [num % lt], _, _, _, _, rfl, upd_same, by simp [hlj], fun x hx => ?_⟩
        rcases List.mem_append.mp hx with z | z
        · exact hlr x z
        · have z' : x = num % lt := by simpa using z
          rw [z']
          exact ⟨Int.emod_nonneg _ (by omega), Int.emod_lt_of_pos _ (by omega)⟩
      · rintro σ H3 ⟨s3, t3, hq3, num, laid, o10, o11, o12, o13, rfl, hl3, hlj, hlr⟩
        refine q_set (v_mod (val_var rfl) (val_var rfl) (by omega)) ?_
        refine q_set (v_div (val_var rfl) (val_var rfl) (by omega) (by omega)) ?_
        generalize hs0 : num % st = s0
        generalize num / st = num1
        refine q_set (v_mod (val_var rfl) (val_var rfl) (by omega)) ?_
        refine q_set (v_div (val_var rfl) (val_var rfl) (by omega) (by omega)) ?_
        generalize hl0 : num1 % lt = l0
        generalize num1 / lt = num2
        refine q_set (v_mod (val_var rfl) (val_var rfl) (by omega)) ?_
        generalize hg0 : num2 % st = g0
        have hS : ∀ a : Int, 0 ≤ a % st ∧ a % st < st := fun a => ⟨Int.emod_nonneg _ (by omega), Int.emod_lt_of_pos _ (by omega)⟩
        have hL : ∀ a : Int, 0 ≤ a % lt ∧ a % lt < lt := fun a => ⟨Int.emod_nonneg _ (by omega), Int.emod_lt_of_pos _ (by omega)⟩
        refine s_append (val_var rfl) hq3 (t_tupE (v_cons (val_var rfl) (v_cons (val_var rfl) (v_cons (val_var rfl) (tcons_E (e_cbE (v_cons (val_var rfl) (v_nil ⟨ll, _, rfl, .inl ⟨SqL.of hl3, fun lt' hlt' => ?_⟩⟩))))))))
        refine v_cons (v_mod (v_div (val_var rfl) (val_var rfl) (by omega) (by omega)) val_c (by decide)) (v_nil ⟨by show 5 ≤ sizeLine; decide, fun rt hrt => ?_⟩)
        have s4 : Same H3 (upd (upd H3 lt' (.tup (laid.map V.int))) rt (.tup [.int s0, .int l0, .int g0, .ref lt', .int (num2 / st % 6)])) := sm_new (sm_up hlt') hrt
        have hq4 := s4 _ _ hq3
        have rw4 : rowT (upd (upd H3 lt' (.tup (laid.map V.int))) rt (.tup [.int s0, .int l0, .int g0, .ref lt', .int (num2 / st % 6)])) ⟨s0, l0, g0, laid, num2 / st % 6⟩ (.ref rt) := ⟨rt, lt', rfl, upd_same, sm_up hrt _ _ upd_same⟩
        refine ⟨ys, hq4, big6 (by rw [← hall.len]; omega), ?_⟩
        generalize (upd (upd H3 lt' (.tup (laid.map V.int))) rt (.tup [.int s0, .int l0, .int g0, .ref lt', .int (num2 / st % 6)])) = H4 at s4 hq4 rw4
        have tp := Tp.lst (o := .lst (ys ++ [.ref rt])) hq4
        refine ⟨sm_own (s3.trans s4) hq, steps ++ [⟨s0, l0, g0, laid, num2 / st % 6⟩], _, _, _, _, _, _, _, _, _, rfl, upd_same, (hall2.mono rowT_m ((t3.trans (.same s4)).trans tp)).snoc (rowT_m.mono tp rw4), fun p hp => ?_, by simp [hsl]⟩
        rcases List.mem_append.mp hp with z | z
        · exact hfit p z
        · have z' : p = ⟨s0, l0, g0, laid, num2 / st % 6⟩ := by simpa using z
          rw [z']
          refine ⟨?_, ?_, ?_, ?_, ?_, ?_, by show laid.length ≤ 2; omega, hlr, Int.emod_nonneg _ (by decide)⟩
          · show 0 ≤ s0; rw [← hs0]; exact (hS _).1
          · show s0 < st; rw [← hs0]; exact (hS _).2
          · show 0 ≤ l0; rw [← hl0]; exact (hL _).1
          · show l0 < lt; rw [← hl0]; exact (hL _).2
          · show 0 ≤ g0; rw [← hg0]; exact (hS _).1
          · show g0 < st; rw [← hg0]; exact (hS _).2
    · rintro σ H1 ⟨s1, steps, ys, o6, o7, o8, o9, o10, o11, o12, o13, rfl, hq1, hall, hfit, hsl⟩
      exact s_ret (val_var rfl) (k q ys steps _ s1 hq hq1 hall hfit hsl)
/-! ### the machine's parts -/
def spMachine : Sp := fun vs H Q _ => ∃ (na : Addr) (vals : List Int), vs = [.ref na, .int 0] ∧ H na = some (.lst (vals.map V.int)) ∧ vals.length = 16 ∧ (∀ v ∈ vals, Num v) ∧
  ∀ pa rl xs (M : Mach) H', Same H H' → H' pa = some (.lst [.int M.st, .int M.lt, .ref rl]) → H' rl = some (.lst xs) → All rowT H' M.steps xs → MachFit M → Q (.ref pa) H'
theorem sc_machine : FnScope ["_law_numbers_here", "_law_place", "_law_states", "_law_letters"] ["_law_numbers_here", "_law_place"] (defScope sMachine) := ⟨rfl, rfl, rfl, by decide +kernel, rfl, by decide +kernel, by decide +kernel⟩
theorem ok_machine (T : Txt K mg c) {f : Addr} {fd : FuncData} (F : Fun K "_law_machine" "_law_machine" sMachine f fd) : FnOk P w K mg base CX0 2 f fd ["_law_numbers_here", "_law_place"] spMachine := by
  obtain ⟨f1, fd1, F1, b1, m1⟩ := T.rows
  have G1 : FnOk P w K mg base CX0 1 f1 fd1 ["_law_numbers_here", "_law_place", "_law_states", "_law_letters", "_law_count"] spRows := ok_rows T F1
  refine F.ok sc_machine (fun vs H Q E h => ?_) (fun cdv A outer s H vs Q E hr h => ?_)
  · obtain ⟨na, vals, rfl, _⟩ := h
    rfl
  · obtain ⟨na, vals, rfl, hna, hvl, hnum, k⟩ := h
    have hu := hu_of hr
    refine ⟨_, (pss_cons (ps_set (i := 2) sc_machine.nd rfl (by first | exact Or.inl rfl | exact Or.inr rfl) (pe_op op_add (pe_op op_mod (pe_ix ix_list (pv 0) (pv 1) (fun _ _ => rfl)) pe_int) pe_int))
      (pss_cons (ps_set (i := 3) sc_machine.nd rfl (by first | exact Or.inl rfl | exact Or.inr rfl) (pe_op op_add (pe_op op_mod (pe_op op_fdiv (pe_ix ix_list (pv 0) (pv 1) (fun _ _ => rfl)) pe_int) pe_int) pe_int))
      (pss_one (ps_ret (pe_lst (pa_cons (pv 2) (pa_cons (pv 3) (pa_cons (pe_call G1 hr (by rfl) m1 F1.kp b1 .nil pass0 (pa_cons (pv 0) (pa_cons (pe_op op_add (pv 1) pe_int) (pa_cons (pv 2) (pa_cons (pv 3) (pa_cons (pe_op op_mod (pe_op op_fdiv (pe_ix ix_list (pv 0) (pv 1) (fun _ _ => rfl)) pe_int) pe_int) pa_nil)))))) pa_nil)))))))), ?_⟩
    have hv0 : (vals.map V.int)[0]? = some (.int (vals.getD 0 0)) := by
      rw [List.getElem?_map, List.getD_eq_getElem?_getD, List.getElem?_eq_getElem (by omega)]; rfl
    have hn0 : Num (vals.getD 0 0) := by
      rw [List.getD_eq_getElem?_getD, List.getElem?_eq_getElem (by omega)]
      exact hnum _ (List.getElem_mem _)
    generalize hz : vals.getD 0 0 = z at hv0 hn0
    have vz : ∀ {σ : L2.St}, σ[0]? = some (some (.ref na)) → σ[1]? = some (some (.int 0)) → Val (tOp (rIxL K) (tVar 0) (tVar 1)) σ H (.int z) := fun e0 e1 => v_ixL (val_var e0) (val_var e1) hna (atI_nat (j := 0) hv0)
    obtain ⟨z0, z1⟩ := hn0
    refine q_set (v_add (v_mod (vz rfl rfl) val_c (by decide)) val_c) ?_
    refine q_set (v_add (v_mod (v_div (vz rfl rfl) val_c (by decide) (by decide)) val_c (by decide)) val_c) ?_
    have h1 : 0 ≤ z % 4 ∧ z % 4 < 4 := ⟨Int.emod_nonneg _ (by decide), Int.emod_lt_of_pos _ (by decide)⟩
    have h2 : 0 ≤ z / 4 % 3 ∧ z / 4 % 3 < 3 := ⟨Int.emod_nonneg _ (by decide), Int.emod_lt_of_pos _ (by decide)⟩
    have h3 : 0 ≤ z / 12 % 11 ∧ z / 12 % 11 < 11 := ⟨Int.emod_nonneg _ (by decide), Int.emod_lt_of_pos _ (by decide)⟩
    obtain ⟨n, hn⟩ : ∃ n : Nat, z / 12 % 11 = (n : Int) := ⟨(z / 12 % 11).toNat, by omega⟩
    refine s_retE (t_lstE (v_cons (val_var rfl) (v_cons (val_var rfl) (tcons_E (e_call (va_cons (val_var rfl) (va_cons (v_add (val_var rfl) val_c) (va_cons (val_var rfl) (va_cons (val_var rfl) (va_cons (v_mod (v_div (vz rfl rfl) val_c (by decide) (by decide)) val_c (by decide)) va_nil))))) ?_)))))
    refine ⟨na, vals, 1, z % 4 + 1, z / 4 % 3 + 1, n, by rw [hn]; rfl, hna, by omega, by omega, by omega, by omega, by omega, by omega, fun q ys steps H1 s1 hq0 hq1 hall hfit hsl => v_nil ⟨by show 3 ≤ sizeLine; decide, fun pa hpa => ?_⟩⟩
    have s2 := sm_up (o := .lst [.int (z % 4 + 1), .int (z / 4 % 3 + 1), .ref q]) hpa
    refine k pa q ys ⟨z % 4 + 1, z / 4 % 3 + 1, steps⟩ _ (s1.trans s2) upd_same (s2 _ _ hq1) (hall.mono rowT_m (.same s2)) ⟨⟨by show 1 ≤ z % 4 + 1; omega, by show z % 4 + 1 ≤ 4; omega, by show 1 ≤ z / 4 % 3 + 1; omega, by show z / 4 % 3 + 1 ≤ 3; omega, by show steps.length ≤ 10; omega, fun p hp => ?_⟩, fun p hp => hfit p hp⟩
    obtain ⟨a1, a2, a3, a4, a5, a6, a7, a8, _⟩ := hfit p hp
    exact ⟨a1, a2, a3, a4, a5, a6, a7, a8⟩
/-! ### configurations, marks -/
def spConf : Sp := fun vs H Q _ => ∃ (num st lt : Int), vs = [.int num, .int st, .int lt, .int 5] ∧ 1 ≤ st ∧ st ≤ 4 ∧ 1 ≤ lt ∧ lt ≤ 3 ∧
  ∀ v (cf : Int × List Int) H', Same H H' → cfgR H' cf v → (∀ M : Mach, M.st = st → M.lt = lt → CfgOk M cf) → Q v H'
theorem sc_conf : FnScope ["_law_number", "_law_states", "_law_letters", "_law_most", "_law_pile", "_law_rest", "_law_k"] ["_law_number", "_law_states", "_law_letters", "_law_most"] (defScope sConf) := ⟨rfl, rfl, rfl, by decide +kernel, rfl, by decide +kernel, by decide +kernel⟩
theorem ok_conf (T : Txt K mg c) {f : Addr} {fd : FuncData} (F : Fun K "_law_configuration" "_law_configuration" sConf f fd) : FnOk P w K mg base CX0 1 f fd ["_law_number", "_law_states", "_law_letters", "_law_most"] spConf := by
  refine F.ok sc_conf (fun vs H Q E h => ?_) (fun cdv A outer s H vs Q E hr h => ?_)
  · obtain ⟨num, st, lt, rfl, _⟩ := h
    rfl
  · obtain ⟨num, st, lt, rfl, st1, st4, lt1, lt3, k⟩ := h
    have hu := hu_of hr
    refine ⟨_, (pss_cons (ps_set (i := 4) sc_conf.nd rfl (by first | exact Or.inl rfl | exact Or.inr rfl) (pe_lst pa_nil))
      (pss_cons (ps_set (i := 5) sc_conf.nd rfl (by first | exact Or.inl rfl | exact Or.inr rfl) (pe_op op_fdiv (pe_op op_fdiv (pv 0) pe_int) (pv 1)))
      (pss_cons (ps_for PassesOwn.never rfl (pi_range1 (by rfl) T.b (pa_cons (pe_op op_mod (pe_op op_mod (pv 0) pe_int) (pe_op op_add (pv 3) pe_int)) pa_nil)) (pg_name (i := 6) sc_conf.nd rfl (by first | exact Or.inl rfl | exact Or.inr rfl))
          (pss_cons (ps_expr (pe_bm PySem.F.plainAttrs_list PySem.F.slot_list_append PySem.F.type_list_append mt_append (pv 4) (pa_cons (pe_op op_mod (pv 5) (pv 2)) pa_nil)))
            (pss_one (ps_set (i := 5) sc_conf.nd rfl (by first | exact Or.inl rfl | exact Or.inr rfl) (pe_op op_add (pe_op op_fdiv (pv 5) (pv 2)) (pe_op op_mul pe_int (pv 6)))))))
      (pss_one (ps_ret (pe_tup (pa_cons (pe_op op_mod (pe_op op_fdiv (pv 0) pe_int) (pv 1)) (pa_cons (pe_callTy call_tuple_of (by rfl) T.b (by decide +kernel) (pa_cons (pv 4) pa_nil)) pa_nil)))))))), ?_⟩
    refine q_asgL va_nil fun q hq => ?_
    refine q_set (v_div (v_div (val_var rfl) val_c (by decide) (by decide)) (val_var rfl) (by omega) (by omega)) ?_
    have h1 : 0 ≤ num % 8 % (5 + 1) ∧ num % 8 % (5 + 1) < 6 := ⟨Int.emod_nonneg _ (by decide), Int.emod_lt_of_pos _ (by decide)⟩
    obtain ⟨n, hn⟩ : ∃ n : Nat, num % 8 % (5 + 1) = (n : Int) := ⟨(num % 8 % (5 + 1)).toNat, by omega⟩
    have hv : ∀ {σ : L2.St} {H' : Hp}, σ[0]? = some (some (.int num)) → σ[3]? = some (some (.int 5)) → Val (tOp (rI (fun _ j => 0 < j) fun i j => V.int (i % j)) (tOp (rI (fun _ j => 0 < j) fun i j => V.int (i % j)) (tVar 0) (tC (.int 8))) (tOp (rI0 fun i j => V.int (i + j)) (tVar 3) (tC (.int 1)))) σ H' (.int (n : Nat)) := fun e0 e3 => by
      rw [← hn]
      exact v_mod (v_mod (val_var e0) val_c (by decide)) (v_add (val_var e3) val_c) (by decide)
    refine q_range1 (n := n) (by omega) (hv rfl rfl) (fun i σ H' => Same H H' ∧ ∃ (rest : Int) (pile : List Int) (o6 : Option V), σ = [some (.int num), some (.int st), some (.int lt), some (.int 5), some (.ref q), some (.int rest), o6] ∧ H' q = some (.lst (pile.map V.int)) ∧ pile.length = i ∧ ∀ x ∈ pile, 0 ≤ x ∧ x < lt)
      ⟨sm_up hq, _, [], _, rfl, upd_same, rfl, by simp⟩ ?_ ?_
    · rintro i σ H1 hi ⟨s1, rest, pile, o6, rfl, hq1, hpl, hpr⟩
      refine g_name ?_
      refine q_append (val_var rfl) hq1 (v_mod (val_var rfl) (val_var rfl) (by omega) _ ⟨_, hq1, big6 (by rw [List.length_map]; omega), ?_⟩)
      have : pile.map V.int ++ [V.int (rest % lt)] = (pile ++ [rest % lt]).map V.int := by simp
      rw [this]
      refine s_set (v_add (v_div (val_var rfl) (val_var rfl) (by omega) (by omega)) (v_mul val_c (val_var rfl) (.inl ⟨by decide, by decide⟩))) ⟨sm_own s1 hq, _, pile ++ [rest % lt], _, rfl, upd_same, by simp [hpl], fun x hx => ?_⟩
      rcases List.mem_append.mp hx with z | z
      · exact hpr x z
      · have z' : x = rest % lt := by simpa using z
        rw [z']
        exact ⟨Int.emod_nonneg _ (by omega), Int.emod_lt_of_pos _ (by omega)⟩
    · rintro σ H1 ⟨s1, rest, pile, o6, rfl, hq1, hpl, hpr⟩
      refine s_retE (t_tupE (v_cons (v_mod (v_div (val_var rfl) val_c (by decide) (by decide)) (val_var rfl) (by omega)) (tcons_E (e_cbE (v_cons (val_var rfl) (v_nil ⟨q, _, rfl, .inl ⟨SqL.of hq1, fun pt hpt => v_nil ⟨by show 2 ≤ sizeLine; decide, fun t ht => ?_⟩⟩⟩))))))
      have s2 := sm_new (o := .tup [.int (num / 8 % st), .ref pt]) (sm_up (o := .tup (pile.map V.int)) hpt) ht
      refine k (.ref t) (num / 8 % st, pile) _ (s1.trans s2) ⟨t, _, _, rfl, upd_same, rfl, pt, _, rfl, sm_up ht _ _ upd_same, ints_all _⟩ fun M e1 e2 => ⟨Int.emod_nonneg _ (by omega), ?_, ?_, by show pile.length ≤ 5; omega⟩
      · rw [e1]; exact Int.emod_lt_of_pos _ (by omega)
      · rw [e2]; exact hpr
def spMarks : Sp := fun vs H Q _ => ∃ (num : Int) (n : Nat), vs = [.int num, .int (n : Nat)] ∧ n ≤ 1000 ∧ ∀ v (ms : List Int) H', Same H H' → tupR intR H' ms v → ms.length ≤ 1000 → Q v H'
theorem sc_marks : FnScope ["_law_number", "_law_count", "_law_marks_here", "_law_k"] ["_law_number", "_law_count"] (defScope sMarks) := ⟨rfl, rfl, rfl, by decide +kernel, rfl, by decide +kernel, by decide +kernel⟩
theorem ok_marks (T : Txt K mg c) {f : Addr} {fd : FuncData} (F : Fun K "_law_marks" "_law_marks" sMarks f fd) : FnOk P w K mg base CX0 1 f fd ["_law_number", "_law_count"] spMarks := by
  refine F.ok sc_marks (fun vs H Q E h => ?_) (fun cdv A outer s H vs Q E hr h => ?_)
  · obtain ⟨num, n, rfl, _⟩ := h
    rfl
  · obtain ⟨num, n, rfl, hn, k⟩ := h
    have hu := hu_of hr
    refine ⟨_, (pss_cons (ps_set (i := 2) sc_marks.nd rfl (by first | exact Or.inl rfl | exact Or.inr rfl) (pe_lst pa_nil))
      (pss_cons (ps_for PassesOwn.never rfl (pi_range1 (by rfl) T.b (pa_cons (pv 1) pa_nil)) (pg_name (i := 3) sc_marks.nd rfl (by first | exact Or.inl rfl | exact Or.inr rfl))
          (pss_cons (ps_if (pt_cmpR op_eq (pe_op op_mod (pv 0) pe_int) pe_int (nomark _))
                (pss_one (ps_expr (pe_bm PySem.F.plainAttrs_list PySem.F.slot_list_append PySem.F.type_list_append mt_append (pv 2) (pa_cons (pv 3) pa_nil))))
                pss_nil)
            (pss_one (ps_set (i := 0) sc_marks.nd rfl (by first | exact Or.inl rfl | exact Or.inr rfl) (pe_op op_fdiv (pv 0) pe_int)))))
      (pss_one (ps_ret (pe_callTy call_tuple_of (by rfl) T.b (by decide +kernel) (pa_cons (pv 2) pa_nil)))))), ?_⟩
    refine q_asgL va_nil fun q hq => ?_
    refine q_range1 (n := n) (by omega) (val_var rfl) (fun i σ H' => Same H H' ∧ ∃ (num : Int) (ms : List Int) (o3 : Option V), σ = [some (.int num), some (.int (n : Nat)), some (.ref q), o3] ∧ H' q = some (.lst (ms.map V.int)) ∧ ms.length ≤ i)
      ⟨sm_up hq, _, [], _, rfl, upd_same, Nat.le_refl _⟩ ?_ ?_
    · rintro i σ H1 hi ⟨s1, num, ms, o3, rfl, hq1, hml⟩
      refine g_name ?_
      refine q_when (b := decide (V.int (num % 3) = V.int 1)) (a_test (v_eq (v_mod (val_var rfl) val_c (by decide)) val_c rfl)) (fun _ => ?_) (fun _ => ?_)
      · refine s_append (val_var rfl) hq1 (val_var rfl _ ⟨_, hq1, big6 (by rw [List.length_map]; omega), ?_⟩)
        have : ms.map V.int ++ [V.int (i : Nat)] = (ms ++ [((i : Nat) : Int)]).map V.int := by simp
        rw [this]
        refine s_set (v_div (val_var rfl) val_c (by decide) (by decide)) ⟨sm_own s1 hq, _, _, _, rfl, upd_same, by simp; omega⟩
      · exact s_set (v_div (val_var rfl) val_c (by decide) (by decide)) ⟨s1, _, _, _, rfl, hq1, by omega⟩
    · rintro σ H1 ⟨s1, num, ms, o3, rfl, hq1, hml⟩
      refine s_retE (e_cbE (v_cons (val_var rfl) (v_nil ⟨q, _, rfl, .inl ⟨SqL.of hq1, fun t ht => ?_⟩⟩)))
      exact k (.ref t) ms _ (sm_new s1 ht) ⟨t, _, rfl, upd_same, ints_all _⟩ (by omega)
end
end PW
end

section
set_option Elab.async false
set_option maxRecDepth 100000
set_option maxHeartbeats 4000000
set_option linter.all false
/-! Walks: the law. -/
namespace PW
open PySem L2 PX PR
section
variable {P : Program} {w : World} {K : PySem.W.Frag} {mg : Str → Option Value} {base : Heap} {c : Cs}
theorem v_notB {σ : L2.St} {H : Hp} {te : TE} {b : Bool} {Q : VK} (h : te σ H fun v H1 => v = .bl b ∧ Q (.bl (!decide (b = true))) H1) : True := trivial
theorem e_notB {σ : L2.St} {H : Hp} {te : TE} {k : Bool} {Q : VK} (h : te σ H fun x H1 => ∃ a : Bool, x = .bl a ∧ Q (.bl (!decide (a = k))) H1) (mono : ∀ Q1 Q2 : VK, (∀ v H', Q1 v H' → Q2 v H') → te σ H Q1 → te σ H Q2) : tOp rNotB te (tC (.bl k)) σ H Q :=
  mono _ _ (fun v H' ⟨a, e, q⟩ => ⟨a, k, e, rfl, q⟩) h
theorem take_right {M : Mach} {mk : Int → Bool} {cf : Int × List Int} {p : Paper} (h : p.right M mk cf = true) : takesJ M mk cf p.verdict p = true := by simp [takesJ, h]
theorem take_wrong {M : Mach} {mk : Int → Bool} {cf : Int × List Int} {p : Paper} : takesJ M mk cf (!p.verdict) p = false := by simp [takesJ]
def spLaw (K : PySem.W.Frag) : Sp := fun vs H Q _ => ∃ (a : Addr) (ns : List Int), vs = [.ref a] ∧ SqL K H a (ns.map V.int) ∧ ns.length ≤ 63 ∧ ∀ H', Q (.bl true) H'
theorem sc_law : FnScope ["_law_script", "_law_numbers_here", "_law_parts", "_law_machine_here", "_law_marked", "_law_one", "_law_two", "_law_found", "_law_due", "_law_others"] ["_law_script"] (defScope sLaw) := ⟨rfl, rfl, rfl, by decide +kernel, rfl, by decide +kernel, by decide +kernel⟩
theorem ok_law (T : Txt K mg c) {f : Addr} {fd : FuncData} (F : Fun K "law" "law" sLaw f fd) : FnOk P w K mg base CX0 6 f fd ["_law_script"] (spLaw K) := by
  obtain ⟨f1, fd1, F1, b1, m1⟩ := T.numbers
  obtain ⟨f2, fd2, F2, b2, m2⟩ := T.machine
  obtain ⟨f3, fd3, F3, b3, m3⟩ := T.made
  obtain ⟨f4, fd4, F4, b4, m4⟩ := T.marks
  obtain ⟨f5, fd5, F5, b5, m5⟩ := T.conf
  obtain ⟨f6, fd6, F6, b6, m6⟩ := T.endless
  obtain ⟨f7, fd7, F7, b7, m7⟩ := T.takes
  have G1 : FnOk P w K mg base CX0 1 f1 fd1 ["_law_script", "_law_count"] (spNumbers K) := ok_numbers T F1
  have G2 : FnOk P w K mg base CX0 2 f2 fd2 ["_law_numbers_here", "_law_place"] spMachine := ok_machine T F2
  have G3 : FnOk P w K mg base CX0 4 f3 fd3 ["_law_parts"] (spMade c) := ok_made T F3
  have G4 : FnOk P w K mg base CX0 1 f4 fd4 ["_law_number", "_law_count"] spMarks := ok_marks T F4
  have G5 : FnOk P w K mg base CX0 1 f5 fd5 ["_law_number", "_law_states", "_law_letters", "_law_most"] spConf := ok_conf T F5
  have G6 : FnOk P w K mg base CX0 5 f6 fd6 ["machine", "marked", "configuration"] (spEndless P w c) := ok_endless T F6
  have G7 : FnOk P w K mg base CX0 5 f7 fd7 ["machine", "marked", "configuration", "verdict", "paper"] (spTakes c) := ok_takes T F7
  refine F.ok sc_law (k := 5) (fun vs H Q E h => ?_) (fun cdv A outer s H vs Q E hr h => ?_)
  · obtain ⟨a, ns, rfl, _⟩ := h
    rfl
  · obtain ⟨a, ns, rfl, hq, hnl, k⟩ := h
    have hu := hu_of hr
    have hr1 : Room 1 _ := hr.mono (by decide)
    have hr2 : Room 2 _ := hr.mono (by decide)
    have hr4 : Room 4 _ := hr.mono (by decide)
    refine ⟨_, (pss_cons (ps_set (i := 1) sc_law.nd rfl (by first | exact Or.inl rfl | exact Or.inr rfl) (pe_call G1 hr1 (by rfl) m1 F1.kp b1 .nil pass0 (pa_cons (pv 0) (pa_cons pe_int pa_nil))))
      (pss_cons (ps_set (i := 2) sc_law.nd rfl (by first | exact Or.inl rfl | exact Or.inr rfl) (pe_call G2 hr2 (by rfl) m2 F2.kp b2 .nil pass0 (pa_cons (pv 1) (pa_cons pe_int pa_nil))))
      (pss_cons (ps_set (i := 3) sc_law.nd rfl (by first | exact Or.inl rfl | exact Or.inr rfl) (pe_call G3 hr4 (by rfl) m3 F3.kp b3 .nil pass0 (pa_cons (pv 2) pa_nil)))
      (pss_cons (ps_set (i := 4) sc_law.nd rfl (by first | exact Or.inl rfl | exact Or.inr rfl) (pe_call G4 hr1 (by rfl) m4 F4.kp b4 .nil pass0 (pa_cons (pe_ix ix_list (pv 1) pe_int (fun _ _ => rfl)) (pa_cons (pe_callB call_len_seq (by rfl) T.b PySem.boot_len (pa_cons (pe_ix ix_list (pv 2) pe_int (fun _ _ => rfl)) pa_nil)) pa_nil))))
      (pss_cons (ps_set (i := 5) sc_law.nd rfl (by first | exact Or.inl rfl | exact Or.inr rfl) (pe_call G5 hr1 (by rfl) m5 F5.kp b5 .nil pass0 (pa_cons (pe_ix ix_list (pv 1) pe_int (fun _ _ => rfl)) (pa_cons (pe_ix ix_list (pv 2) pe_int (fun _ _ => rfl)) (pa_cons (pe_ix ix_list (pv 2) pe_int (fun _ _ => rfl)) (pa_cons pe_int pa_nil))))))
      (pss_cons (ps_set (i := 6) sc_law.nd rfl (by first | exact Or.inl rfl | exact Or.inr rfl) (pe_call G5 hr1 (by rfl) m5 F5.kp b5 .nil pass0 (pa_cons (pe_ix ix_list (pv 1) pe_int (fun _ _ => rfl)) (pa_cons (pe_ix ix_list (pv 2) pe_int (fun _ _ => rfl)) (pa_cons (pe_ix ix_list (pv 2) pe_int (fun _ _ => rfl)) (pa_cons pe_int pa_nil))))))
      (pss_cons (ps_set (i := 7) sc_law.nd rfl (by first | exact Or.inl rfl | exact Or.inr rfl) (pe_call G6 hr (by rfl) m6 F6.kp b6 .nil pass0 (pa_cons (pv 3) (pa_cons (pv 4) (pa_cons (pv 5) pa_nil)))))
      (pss_cons (ps_if (pt_cmpR op_notBl (pe_call G7 hr (by rfl) m7 F7.kp b7 .nil pass0 (pa_cons (pv 3) (pa_cons (pv 4) (pa_cons (pv 5) (pa_cons (pe_ix ix_tup (pv 7) pe_int (fun _ _ => rfl)) (pa_cons (pe_ix ix_tup (pv 7) pe_int (fun _ _ => rfl)) pa_nil)))))) pe_bl (nomark _))
          (pss_one (ps_ret pe_bl))
          pss_nil)
      (pss_cons (ps_if (pt_cmpR op_notBl (pe_call G7 hr (by rfl) m7 F7.kp b7 .nil pass0 (pa_cons (pv 3) (pa_cons (pv 4) (pa_cons (pv 5) (pa_cons (pe_not (pe_ix ix_tup (pv 7) pe_int (fun _ _ => rfl))) (pa_cons (pe_ix ix_tup (pv 7) pe_int (fun _ _ => rfl)) pa_nil)))))) pe_bl (nomark _))
          (pss_one (ps_ret pe_bl))
          pss_nil)
      (pss_cons (ps_set (i := 8) sc_law.nd rfl (by first | exact Or.inl rfl | exact Or.inr rfl) (pe_ix ix_tup (pe_call G6 hr (by rfl) m6 F6.kp b6 .nil pass0 (pa_cons (pv 3) (pa_cons (pv 4) (pa_cons (pv 6) pa_nil)))) pe_int (fun _ _ => rfl)))
      (pss_cons (ps_if (pt_cmpR op_notBl (pe_call G7 hr (by rfl) m7 F7.kp b7 .nil pass0 (pa_cons (pv 3) (pa_cons (pv 4) (pa_cons (pv 6) (pa_cons (pe_not (pv 8)) (pa_cons (pe_ix ix_tup (pv 7) pe_int (fun _ _ => rfl)) pa_nil)))))) pe_bl (nomark _))
          (pss_one (ps_ret pe_bl))
          pss_nil)
      (pss_cons (ps_set (i := 9) sc_law.nd rfl (by first | exact Or.inl rfl | exact Or.inr rfl) (pe_call G4 hr1 (by rfl) m4 F4.kp b4 .nil pass0 (pa_cons (pe_ix ix_list (pv 1) pe_int (fun _ _ => rfl)) (pa_cons (pe_callB call_len_seq (by rfl) T.b PySem.boot_len (pa_cons (pe_ix ix_list (pv 2) pe_int (fun _ _ => rfl)) pa_nil)) pa_nil))))
      (pss_cons (ps_set (i := 8) sc_law.nd rfl (by first | exact Or.inl rfl | exact Or.inr rfl) (pe_ix ix_tup (pe_call G6 hr (by rfl) m6 F6.kp b6 .nil pass0 (pa_cons (pv 3) (pa_cons (pv 9) (pa_cons (pv 5) pa_nil)))) pe_int (fun _ _ => rfl)))
      (pss_one (ps_ret (pe_cmpR op_isBl (pe_call G7 hr (by rfl) m7 F7.kp b7 .nil pass0 (pa_cons (pv 3) (pa_cons (pv 9) (pa_cons (pv 5) (pa_cons (pe_not (pv 8)) (pa_cons (pe_ix ix_tup (pv 7) pe_int (fun _ _ => rfl)) pa_nil)))))) pe_bl (nomark _))))))))))))))))), ?_⟩
    refine q_asg (e_call (va_cons (val_var rfl) (va_cons val_c va_nil)) ⟨a, ns, rfl, hq, by omega, fun na vals H1 s1 hna hvl hnum => ?_⟩)
    refine q_asg (e_call (va_cons (val_var rfl) (va_cons val_c va_nil)) ⟨na, vals, rfl, hna, hvl, hnum, fun pa rl xs M H2 s2 hpa hrl hxs hfit => ?_⟩)
    have hn10 := hfit.1.n10
    have hxl : xs.length ≤ 10 := by rw [← hxs.len]; exact hn10
    have hlaid : ∀ p ∈ M.steps, p.laid.length ≤ 2 := fun p hp => (hfit.2 p hp).2.2.2.2.2.2.1
    refine q_asg (e_call (va_cons (val_var rfl) va_nil) ⟨M, pa, rl, xs, rfl, hpa, hrl, hxs, hfit, fun mv H3 s3 hm => ?_⟩)
    have s23 := s2.trans s3
    have vat : ∀ {i : Nat} {σ : L2.St} {H' : Hp}, Same H1 H' → i < 16 → σ[1]? = some (some (.ref na)) → Val (tOp (rIxL K) (tVar 1) (tC (.int (i : Nat)))) σ H' (.int (vals.getD i 0)) := fun {i σ H'} sm hi e => v_ixL (val_var e) val_c (sm _ _ hna) (atI_nat (by rw [List.getElem?_map, List.getD_eq_getElem?_getD, List.getElem?_eq_getElem (by omega)]; rfl))
    have vp0 : ∀ {σ : L2.St} {H' : Hp}, Same H2 H' → σ[2]? = some (some (.ref pa)) → Val (tOp (rIxL K) (tVar 2) (tC (.int 0))) σ H' (.int M.st) := fun sm e => v_ixL (val_var e) val_c (sm _ _ hpa) (atI_nat (j := 0) rfl)
    have vp1 : ∀ {σ : L2.St} {H' : Hp}, Same H2 H' → σ[2]? = some (some (.ref pa)) → Val (tOp (rIxL K) (tVar 2) (tC (.int 1))) σ H' (.int M.lt) := fun sm e => v_ixL (val_var e) val_c (sm _ _ hpa) (atI_nat (j := 1) rfl)
    have vp2 : ∀ {σ : L2.St} {H' : Hp}, Same H2 H' → σ[2]? = some (some (.ref pa)) → Val (tCB (fun xs H Q => ∃ p ys, xs = [V.ref p] ∧ (SqL K H p ys ∨ SqT K H p ys) ∧ Q (.int ys.length) H) (tCons (tOp (rIxL K) (tVar 2) (tC (.int 2))) tNil)) σ H' (.int (xs.length : Nat)) := fun sm e => v_len (v_ixL (val_var e) val_c (sm _ _ hpa) (atI_nat (j := 2) rfl)) (.inl (SqL.of (sm _ _ hrl)))
    -- marked, one, two
    refine q_asg (e_call (va_cons (vat (i := 11) s23 (by decide) rfl) (va_cons (vp2 s3 rfl) va_nil)) ⟨_, xs.length, rfl, by omega, fun mkv ms H4 s4 hms hmsl => ?_⟩)
    have s34 := s3.trans s4
    have b4 := s23.trans s4
    refine q_asg (e_call (va_cons (vat (i := 12) b4 (by decide) rfl) (va_cons (vp0 s34 rfl) (va_cons (vp1 s34 rfl) (va_cons val_c va_nil)))) ⟨_, M.st, M.lt, rfl, hfit.1.st1, hfit.1.st4, hfit.1.lt1, hfit.1.lt3, fun ov one H5 s5 hone hc1 => ?_⟩)
    have s35 := s34.trans s5
    have b5' := b4.trans s5
    refine q_asg (e_call (va_cons (vat (i := 13) b5' (by decide) rfl) (va_cons (vp0 s35 rfl) (va_cons (vp1 s35 rfl) (va_cons val_c va_nil)))) ⟨_, M.st, M.lt, rfl, hfit.1.st1, hfit.1.st4, hfit.1.lt1, hfit.1.lt3, fun tv two H6 s6 htwo hc2 => ?_⟩)
    have m6' : machR c H6 M mv := machR_m.mono (.same ((s4.trans s5).trans s6)) hm
    have ms6 := (tupR_m intR_m).mono (.same (s5.trans s6)) hms
    have one6 := cfgR_m.mono (.same s6) hone
    -- found
    refine q_asg (e_call (va_cons (val_var rfl) (va_cons (val_var rfl) (va_cons (val_var rfl) va_nil))) ⟨M, ms, one, mv, mkv, ov, rfl, hfit.1, hc1 M rfl rfl, m6', ms6, hmsl, one6, fun fa pp p H7 s7 hfa hpp hpo hright => ?_⟩)
    have m7' := machR_m.mono (.same s7) m6'
    have ms7 := (tupR_m intR_m).mono (.same s7) ms6
    have one7 := cfgR_m.mono (.same s7) one6
    have two7 := cfgR_m.mono (.same s7) htwo
    -- taken
    refine q_whenE (a_testE (e_opE (e_call (va_cons (val_var rfl) (va_cons (val_var rfl) (va_cons (val_var rfl) (va_cons (v_ixT (val_var rfl) val_c hfa (atI_nat (j := 0) rfl)) (va_cons (v_ixT (val_var rfl) val_c hfa (atI_nat (j := 1) rfl)) va_nil))))) ⟨M, ms, mv, mkv, ov, pp, one, p.verdict, p, rfl, m7', ms7, one7, hpp, hpo, hlaid, hmsl, fun H8 s8 => ?_⟩)))
    rw [take_right hright]
    refine ⟨true, true, rfl, rfl, _, rfl, iteF ?_⟩
    have hfa8 := s8 _ _ hfa
    have m8' := machR_m.mono (.same s8) m7'
    have ms8 := (tupR_m intR_m).mono (.same s8) ms7
    have one8 := cfgR_m.mono (.same s8) one7
    have pp8 := paperR_m.mono (.same s8) hpp
    refine q_whenE (a_testE (e_opE (e_call (va_cons (val_var rfl) (va_cons (val_var rfl) (va_cons (val_var rfl) (va_cons (v_not (v_ixT (val_var rfl) val_c hfa8 (atI_nat (j := 0) rfl))) (va_cons (v_ixT (val_var rfl) val_c hfa8 (atI_nat (j := 1) rfl)) va_nil))))) ⟨M, ms, mv, mkv, ov, pp, one, !p.verdict, p, rfl, m8', ms8, one8, pp8, hpo, hlaid, hmsl, fun H9 s9 => ?_⟩)))
    rw [take_wrong]
    refine ⟨false, false, rfl, rfl, _, rfl, iteF ?_⟩
    have s79 := s8.trans s9
    have m9' := machR_m.mono (.same s9) m8'
    have ms9 := (tupR_m intR_m).mono (.same s9) ms8
    have one9 := cfgR_m.mono (.same s9) one8
    have two9 := cfgR_m.mono (.same s79) two7
    have pp9 := paperR_m.mono (.same s9) pp8
    have hfa9 := s9 _ _ hfa8
    -- the other configuration
    refine q_asg (e_opE (e_call (va_cons (val_var rfl) (va_cons (val_var rfl) (va_cons (val_var rfl) va_nil))) ⟨M, ms, two, mv, mkv, tv, rfl, hfit.1, hc2 M rfl rfl, m9', ms9, hmsl, two9, fun fb pp2 p2 H10 s10 hfb hpp2 hpo2 hright2 => val_c _ ⟨fb, _, 0, _, rfl, rfl, SqT.of hfb, atI_nat (j := 0) rfl, ?_⟩⟩))
    have m10 := machR_m.mono (.same s10) m9'
    have ms10 := (tupR_m intR_m).mono (.same s10) ms9
    have one10 := cfgR_m.mono (.same s10) one9
    have two10 := cfgR_m.mono (.same s10) two9
    have pp10 := paperR_m.mono (.same s10) pp9
    have hfa10 := s10 _ _ hfa9
    refine q_whenE (a_testE (e_opE (e_call (va_cons (val_var rfl) (va_cons (val_var rfl) (va_cons (val_var rfl) (va_cons (v_not (val_var rfl)) (va_cons (v_ixT (val_var rfl) val_c hfa10 (atI_nat (j := 1) rfl)) va_nil))))) ⟨M, ms, mv, mkv, tv, pp, two, !p2.verdict, p, rfl, m10, ms10, two10, pp10, hpo, hlaid, hmsl, fun H11 s11 => ?_⟩)))
    rw [takes_apart hright2]
    refine ⟨false, false, rfl, rfl, _, rfl, iteF ?_⟩
    -- the other marks
    have b11 : Same H1 H11 := ((((((b5'.trans s6).trans s7).trans s8).trans s9).trans s10).trans s11)
    have s3b : Same H2 H11 := ((((((s35.trans s6).trans s7).trans s8).trans s9).trans s10).trans s11)
    refine q_asg (e_call (va_cons (vat (i := 14) b11 (by decide) rfl) (va_cons (vp2 s3b rfl) va_nil)) ⟨_, xs.length, rfl, by omega, fun okv ms' H12 s12 hms' hmsl' => ?_⟩)
    have m12 := machR_m.mono (.same (s11.trans s12)) m10
    have one12 := cfgR_m.mono (.same (s11.trans s12)) one10
    have pp12 := paperR_m.mono (.same (s11.trans s12)) pp10
    refine q_asg (e_opE (e_call (va_cons (val_var rfl) (va_cons (val_var rfl) (va_cons (val_var rfl) va_nil))) ⟨M, ms', one, mv, okv, ov, rfl, hfit.1, hc1 M rfl rfl, m12, hms', hmsl', one12, fun fc pp3 p3 H13 s13 hfc hpp3 hpo3 hright3 => val_c _ ⟨fc, _, 0, _, rfl, rfl, SqT.of hfc, atI_nat (j := 0) rfl, ?_⟩⟩))
    have hfa13 := s13 _ _ (s12 _ _ (s11 _ _ hfa10))
    refine s_retE (e_opE (e_call (va_cons (val_var rfl) (va_cons (val_var rfl) (va_cons (val_var rfl) (va_cons (v_not (val_var rfl)) (va_cons (v_ixT (val_var rfl) val_c hfa13 (atI_nat (j := 1) rfl)) va_nil))))) ⟨M, ms', mv, okv, ov, pp, one, !p3.verdict, p, rfl, machR_m.mono (.same s13) m12, (tupR_m intR_m).mono (.same s13) hms', cfgR_m.mono (.same s13) one12, paperR_m.mono (.same s13) pp12, hpo, hlaid, hmsl', fun H14 s14 => ?_⟩))
    rw [takes_apart hright3]
    exact ⟨false, false, rfl, rfl, k _⟩
end
end PW
end

section
set_option Elab.async false
set_option maxRecDepth 100000
set_option maxHeartbeats 4000000
set_option linter.all false
/-! What the top has written; the walk of the law. -/
namespace PW
open PySem L2 PX PR
def AllP (p : Str → Prop) : List Str → Prop
  | [] => True
  | a :: l => p a ∧ AllP p l
theorem AllP.mem {p : Str → Prop} : ∀ {l : List Str}, AllP p l → ∀ n ∈ l, p n
  | [], _, n, h => by cases h
  | a :: l, ⟨h1, h2⟩, n, h => by
    rcases List.mem_cons.mp h with rfl | h
    · exact h1
    · exact AllP.mem h2 n h
theorem noAll {K : PySem.W.Frag} {C : Addr} (l : List Str) (h : AllP (fun n => PySem.W.findIn K (.ref C) n = some none) l) : ∀ n ∈ l, NoAttr K C n := AllP.mem h
theorem blAll {mg : Str → Option Value} (l : List Str) (h : AllP (fun n => mg n = none) l) : ∀ n ∈ l, mg n = none := AllP.mem h
theorem stF {K : PySem.W.Frag} {f dT dE : Addr} {oc kV doc pm cdv ct : Value} {od an : Option Addr} {osl : Array (Option Value)} {ocT : Value} {odT : Option Addr} {slT : Array (Option Value)} {nT : Nat} {tkT : Tok}
    (l : K.lookup f = some ⟨oc, od, .func (PySem.W.fnOf "__init__" "Step.__init__" (defArgs sStInit) (defBody sStInit) (defScope sStInit) (.ref dT) kV doc pm an cdv ct), osl⟩) (c : PySem.W.codeIn K cdv "Step.__init__" = true) (k : PySem.W.keepIn K (.ref f) = true)
    (lT : K.lookup dT = some ⟨ocT, odT, .seq #[.ref dE, .int 1 tkT] nT, slT⟩) : FunD K "__init__" "Step.__init__" (defArgs sStInit) (defBody sStInit) (defScope sStInit) [.ref dE, .int 1] [] f (PySem.W.fnOf "__init__" "Step.__init__" (defArgs sStInit) (defBody sStInit) (defScope sStInit) (.ref dT) kV doc pm an cdv ct) :=
  ⟨⟨oc, od, .ref dT, kV, doc, pm, an, cdv, ct, osl, rfl, l, c, .inr ⟨(fun z => by cases z), dT, _, [.ref dE, .int 1 tkT], nT, rfl, lT, rfl, .cons rfl (.cons ⟨tkT, rfl⟩ .nil)⟩, .inl rfl⟩, k⟩
theorem all_mk {l : PySem.W.OpenLaw} {w : World} {K : PySem.W.Frag} {h : Heap} {mg : Str → Option Value} {fa : Addr} {Ctk Ctb Crw Chd Cto Cst Cma ftkInit ftbInit frwInit fhdInit ftoInit fstInit dT dE fmaInit ftkStep ftkEntry ftkRead ftkMove ftbFrom ftbClosed ftbEdges frwMissing frwAdd fhdPut fhdMoves fhdReached ftoEntries ftoUse ftakings fbehind fwalk fisHead fentries franks ffalls fstarts fever fnot_ ftakes fwayTo fdescents fringAt ftoldRanks ftoldMoves fendless ffits fnumbers frows fmachine fmade fconf fmarks flaw : Addr}
    {octkInit kVtkInit dctkInit pmtkInit cdtkInit cttkInit : Value} {odtkInit antkInit : Option Addr} {sltkInit : Array (Option Value)}
    {octbInit kVtbInit dctbInit pmtbInit cdtbInit cttbInit : Value} {odtbInit antbInit : Option Addr} {sltbInit : Array (Option Value)}
    {ocrwInit kVrwInit dcrwInit pmrwInit cdrwInit ctrwInit : Value} {odrwInit anrwInit : Option Addr} {slrwInit : Array (Option Value)}
    {ochdInit kVhdInit dchdInit pmhdInit cdhdInit cthdInit : Value} {odhdInit anhdInit : Option Addr} {slhdInit : Array (Option Value)}
    {octoInit kVtoInit dctoInit pmtoInit cdtoInit cttoInit : Value} {odtoInit antoInit : Option Addr} {sltoInit : Array (Option Value)}
    {ocstInit kVstInit dcstInit pmstInit cdstInit ctstInit : Value} {odstInit anstInit : Option Addr} {slstInit : Array (Option Value)}
    {ocT : Value} {odT : Option Addr} {slT : Array (Option Value)} {nT : Nat} {tkT : Tok}
    {ocmaInit kVmaInit dcmaInit pmmaInit cdmaInit ctmaInit : Value} {odmaInit anmaInit : Option Addr} {slmaInit : Array (Option Value)}
    {octkStep kVtkStep dctkStep pmtkStep cdtkStep cttkStep : Value} {odtkStep antkStep : Option Addr} {sltkStep : Array (Option Value)}
    {octkEntry kVtkEntry dctkEntry pmtkEntry cdtkEntry cttkEntry : Value} {odtkEntry antkEntry : Option Addr} {sltkEntry : Array (Option Value)}
    {octkRead kVtkRead dctkRead pmtkRead cdtkRead cttkRead : Value} {odtkRead antkRead : Option Addr} {sltkRead : Array (Option Value)}
    {octkMove kVtkMove dctkMove pmtkMove cdtkMove cttkMove : Value} {odtkMove antkMove : Option Addr} {sltkMove : Array (Option Value)}
    {octbFrom kVtbFrom dctbFrom pmtbFrom cdtbFrom cttbFrom : Value} {odtbFrom antbFrom : Option Addr} {sltbFrom : Array (Option Value)}
    {octbClosed kVtbClosed dctbClosed pmtbClosed cdtbClosed cttbClosed : Value} {odtbClosed antbClosed : Option Addr} {sltbClosed : Array (Option Value)}
    {octbEdges kVtbEdges dctbEdges pmtbEdges cdtbEdges cttbEdges : Value} {odtbEdges antbEdges : Option Addr} {sltbEdges : Array (Option Value)}
    {ocrwMissing kVrwMissing dcrwMissing pmrwMissing cdrwMissing ctrwMissing : Value} {odrwMissing anrwMissing : Option Addr} {slrwMissing : Array (Option Value)}
    {ocrwAdd kVrwAdd dcrwAdd pmrwAdd cdrwAdd ctrwAdd : Value} {odrwAdd anrwAdd : Option Addr} {slrwAdd : Array (Option Value)}
    {ochdPut kVhdPut dchdPut pmhdPut cdhdPut cthdPut : Value} {odhdPut anhdPut : Option Addr} {slhdPut : Array (Option Value)}
    {ochdMoves kVhdMoves dchdMoves pmhdMoves cdhdMoves cthdMoves : Value} {odhdMoves anhdMoves : Option Addr} {slhdMoves : Array (Option Value)}
    {ochdReached kVhdReached dchdReached pmhdReached cdhdReached cthdReached : Value} {odhdReached anhdReached : Option Addr} {slhdReached : Array (Option Value)}
    {octoEntries kVtoEntries dctoEntries pmtoEntries cdtoEntries cttoEntries : Value} {odtoEntries antoEntries : Option Addr} {sltoEntries : Array (Option Value)}
    {octoUse kVtoUse dctoUse pmtoUse cdtoUse cttoUse : Value} {odtoUse antoUse : Option Addr} {sltoUse : Array (Option Value)}
    {octakings kVtakings dctakings pmtakings cdtakings cttakings : Value} {odtakings antakings : Option Addr} {sltakings : Array (Option Value)}
    {ocbehind kVbehind dcbehind pmbehind cdbehind ctbehind : Value} {odbehind anbehind : Option Addr} {slbehind : Array (Option Value)}
    {ocwalk kVwalk dcwalk pmwalk cdwalk ctwalk : Value} {odwalk anwalk : Option Addr} {slwalk : Array (Option Value)}
    {ocisHead kVisHead dcisHead pmisHead cdisHead ctisHead : Value} {odisHead anisHead : Option Addr} {slisHead : Array (Option Value)}
    {ocentries kVentries dcentries pmentries cdentries ctentries : Value} {odentries anentries : Option Addr} {slentries : Array (Option Value)}
    {ocranks kVranks dcranks pmranks cdranks ctranks : Value} {odranks anranks : Option Addr} {slranks : Array (Option Value)}
    {ocfalls kVfalls dcfalls pmfalls cdfalls ctfalls : Value} {odfalls anfalls : Option Addr} {slfalls : Array (Option Value)}
    {ocstarts kVstarts dcstarts pmstarts cdstarts ctstarts : Value} {odstarts anstarts : Option Addr} {slstarts : Array (Option Value)}
    {ocever kVever dcever pmever cdever ctever : Value} {odever anever : Option Addr} {slever : Array (Option Value)}
    {ocnot_ kVnot_ dcnot_ pmnot_ cdnot_ ctnot_ : Value} {odnot_ annot_ : Option Addr} {slnot_ : Array (Option Value)}
    {octakes kVtakes dctakes pmtakes cdtakes cttakes : Value} {odtakes antakes : Option Addr} {sltakes : Array (Option Value)}
    {ocwayTo kVwayTo dcwayTo pmwayTo cdwayTo ctwayTo : Value} {odwayTo anwayTo : Option Addr} {slwayTo : Array (Option Value)}
    {ocdescents kVdescents dcdescents pmdescents cddescents ctdescents : Value} {oddescents andescents : Option Addr} {sldescents : Array (Option Value)}
    {ocringAt kVringAt dcringAt pmringAt cdringAt ctringAt : Value} {odringAt anringAt : Option Addr} {slringAt : Array (Option Value)}
    {octoldRanks kVtoldRanks dctoldRanks pmtoldRanks cdtoldRanks cttoldRanks : Value} {odtoldRanks antoldRanks : Option Addr} {sltoldRanks : Array (Option Value)}
    {octoldMoves kVtoldMoves dctoldMoves pmtoldMoves cdtoldMoves cttoldMoves : Value} {odtoldMoves antoldMoves : Option Addr} {sltoldMoves : Array (Option Value)}
    {ocendless kVendless dcendless pmendless cdendless ctendless : Value} {odendless anendless : Option Addr} {slendless : Array (Option Value)}
    {ocfits kVfits dcfits pmfits cdfits ctfits : Value} {odfits anfits : Option Addr} {slfits : Array (Option Value)}
    {ocnumbers kVnumbers dcnumbers pmnumbers cdnumbers ctnumbers : Value} {odnumbers annumbers : Option Addr} {slnumbers : Array (Option Value)}
    {ocrows kVrows dcrows pmrows cdrows ctrows : Value} {odrows anrows : Option Addr} {slrows : Array (Option Value)}
    {ocmachine kVmachine dcmachine pmmachine cdmachine ctmachine : Value} {odmachine anmachine : Option Addr} {slmachine : Array (Option Value)}
    {ocmade kVmade dcmade pmmade cdmade ctmade : Value} {odmade anmade : Option Addr} {slmade : Array (Option Value)}
    {occonf kVconf dcconf pmconf cdconf ctconf : Value} {odconf anconf : Option Addr} {slconf : Array (Option Value)}
    {ocmarks kVmarks dcmarks pmmarks cdmarks ctmarks : Value} {odmarks anmarks : Option Addr} {slmarks : Array (Option Value)}
    {oclaw kVlaw dclaw pmlaw cdlaw ctlaw : Value} {odlaw anlaw : Option Addr} {sllaw : Array (Option Value)}
    (X : K.In h) (G : h.Ns mainGlobals mg) (hfa : mg "law" = some (.ref fa))
    (aCtk : PySem.W.nsIn K mainGlobals "Takings" = some (some (.ref Ctk)))
    (pgtk : PySem.W.plainGet K Ctk Str.empty = true)
    (hdtk : PySem.W.hasDictIn K Ctk = true)
    (potk : PySem.W.plainOver K Ctk = true)
    (satk : PySem.W.findIn K (.ref Ctk) "__setattr__" = some (some (.builtin "object.__setattr__")))
    (mktk : PySem.W.makesIn K Ctk = true)
    (kctk : PySem.W.keepIn K (.ref Ctk) = true)
    (ntk0 : PySem.W.findIn K (.ref Ctk) "steps" = some none)
    (ntk1 : PySem.W.findIn K (.ref Ctk) "marks" = some none)
    (ntk2 : PySem.W.findIn K (.ref Ctk) "entries" = some none)
    (aCtb : PySem.W.nsIn K mainGlobals "Table" = some (some (.ref Ctb)))
    (pgtb : PySem.W.plainGet K Ctb Str.empty = true)
    (hdtb : PySem.W.hasDictIn K Ctb = true)
    (potb : PySem.W.plainOver K Ctb = true)
    (satb : PySem.W.findIn K (.ref Ctb) "__setattr__" = some (some (.builtin "object.__setattr__")))
    (mktb : PySem.W.makesIn K Ctb = true)
    (kctb : PySem.W.keepIn K (.ref Ctb) = true)
    (ntb0 : PySem.W.findIn K (.ref Ctb) "known" = some none)
    (ntb1 : PySem.W.findIn K (.ref Ctb) "by_head" = some none)
    (aCrw : PySem.W.nsIn K mainGlobals "Rows" = some (some (.ref Crw)))
    (pgrw : PySem.W.plainGet K Crw Str.empty = true)
    (hdrw : PySem.W.hasDictIn K Crw = true)
    (porw : PySem.W.plainOver K Crw = true)
    (sarw : PySem.W.findIn K (.ref Crw) "__setattr__" = some (some (.builtin "object.__setattr__")))
    (mkrw : PySem.W.makesIn K Crw = true)
    (kcrw : PySem.W.keepIn K (.ref Crw) = true)
    (nrw0 : PySem.W.findIn K (.ref Crw) "found" = some none)
    (nrw1 : PySem.W.findIn K (.ref Crw) "places" = some none)
    (nrw2 : PySem.W.findIn K (.ref Crw) "rows" = some none)
    (aChd : PySem.W.nsIn K mainGlobals "Heads" = some (some (.ref Chd)))
    (pghd : PySem.W.plainGet K Chd Str.empty = true)
    (hdhd : PySem.W.hasDictIn K Chd = true)
    (pohd : PySem.W.plainOver K Chd = true)
    (sahd : PySem.W.findIn K (.ref Chd) "__setattr__" = some (some (.builtin "object.__setattr__")))
    (mkhd : PySem.W.makesIn K Chd = true)
    (kchd : PySem.W.keepIn K (.ref Chd) = true)
    (nhd0 : PySem.W.findIn K (.ref Chd) "moves" = some none)
    (aCto : PySem.W.nsIn K mainGlobals "TakeOff" = some (some (.ref Cto)))
    (pgto : PySem.W.plainGet K Cto Str.empty = true)
    (hdto : PySem.W.hasDictIn K Cto = true)
    (poto : PySem.W.plainOver K Cto = true)
    (sato : PySem.W.findIn K (.ref Cto) "__setattr__" = some (some (.builtin "object.__setattr__")))
    (mkto : PySem.W.makesIn K Cto = true)
    (kcto : PySem.W.keepIn K (.ref Cto) = true)
    (nto0 : PySem.W.findIn K (.ref Cto) "machine" = some none)
    (nto1 : PySem.W.findIn K (.ref Cto) "marked" = some none)
    (nto2 : PySem.W.findIn K (.ref Cto) "found" = some none)
    (nto3 : PySem.W.findIn K (.ref Cto) "leaving" = some none)
    (aCst : PySem.W.nsIn K mainGlobals "Step" = some (some (.ref Cst)))
    (pgst : PySem.W.plainGet K Cst Str.empty = true)
    (hdst : PySem.W.hasDictIn K Cst = true)
    (post : PySem.W.plainOver K Cst = true)
    (sast : PySem.W.findIn K (.ref Cst) "__setattr__" = some (some (.builtin "object.__setattr__")))
    (mkst : PySem.W.makesIn K Cst = true)
    (kcst : PySem.W.keepIn K (.ref Cst) = true)
    (nst0 : PySem.W.findIn K (.ref Cst) "state" = some none)
    (nst1 : PySem.W.findIn K (.ref Cst) "letter" = some none)
    (nst2 : PySem.W.findIn K (.ref Cst) "goal" = some none)
    (nst3 : PySem.W.findIn K (.ref Cst) "laid" = some none)
    (nst4 : PySem.W.findIn K (.ref Cst) "weight" = some none)
    (aCma : PySem.W.nsIn K mainGlobals "Machine" = some (some (.ref Cma)))
    (pgma : PySem.W.plainGet K Cma Str.empty = true)
    (hdma : PySem.W.hasDictIn K Cma = true)
    (poma : PySem.W.plainOver K Cma = true)
    (sama : PySem.W.findIn K (.ref Cma) "__setattr__" = some (some (.builtin "object.__setattr__")))
    (mkma : PySem.W.makesIn K Cma = true)
    (kcma : PySem.W.keepIn K (.ref Cma) = true)
    (nma0 : PySem.W.findIn K (.ref Cma) "states" = some none)
    (nma1 : PySem.W.findIn K (.ref Cma) "letters" = some none)
    (nma2 : PySem.W.findIn K (.ref Cma) "steps" = some none)
    (atkInit : PySem.W.findIn K (.ref Ctk) "__init__" = some (some (.ref ftkInit)))
    (itkInit : PySem.W.isFn K (.ref ftkInit) = true)
    (ltkInit : K.lookup ftkInit = some ⟨octkInit, odtkInit, .func (PySem.W.fnOf "__init__" "Takings.__init__" (defArgs sTkInit) (defBody sTkInit) (defScope sTkInit) .none kVtkInit dctkInit pmtkInit antkInit cdtkInit cttkInit), sltkInit⟩)
    (ctkInit : PySem.W.codeIn K cdtkInit "Takings.__init__" = true)
    (ktkInit : PySem.W.keepIn K (.ref ftkInit) = true)
    (atbInit : PySem.W.findIn K (.ref Ctb) "__init__" = some (some (.ref ftbInit)))
    (itbInit : PySem.W.isFn K (.ref ftbInit) = true)
    (ltbInit : K.lookup ftbInit = some ⟨octbInit, odtbInit, .func (PySem.W.fnOf "__init__" "Table.__init__" (defArgs sTbInit) (defBody sTbInit) (defScope sTbInit) .none kVtbInit dctbInit pmtbInit antbInit cdtbInit cttbInit), sltbInit⟩)
    (ctbInit : PySem.W.codeIn K cdtbInit "Table.__init__" = true)
    (ktbInit : PySem.W.keepIn K (.ref ftbInit) = true)
    (arwInit : PySem.W.findIn K (.ref Crw) "__init__" = some (some (.ref frwInit)))
    (irwInit : PySem.W.isFn K (.ref frwInit) = true)
    (lrwInit : K.lookup frwInit = some ⟨ocrwInit, odrwInit, .func (PySem.W.fnOf "__init__" "Rows.__init__" (defArgs sRwInit) (defBody sRwInit) (defScope sRwInit) .none kVrwInit dcrwInit pmrwInit anrwInit cdrwInit ctrwInit), slrwInit⟩)
    (crwInit : PySem.W.codeIn K cdrwInit "Rows.__init__" = true)
    (krwInit : PySem.W.keepIn K (.ref frwInit) = true)
    (ahdInit : PySem.W.findIn K (.ref Chd) "__init__" = some (some (.ref fhdInit)))
    (ihdInit : PySem.W.isFn K (.ref fhdInit) = true)
    (lhdInit : K.lookup fhdInit = some ⟨ochdInit, odhdInit, .func (PySem.W.fnOf "__init__" "Heads.__init__" (defArgs sHdInit) (defBody sHdInit) (defScope sHdInit) .none kVhdInit dchdInit pmhdInit anhdInit cdhdInit cthdInit), slhdInit⟩)
    (chdInit : PySem.W.codeIn K cdhdInit "Heads.__init__" = true)
    (khdInit : PySem.W.keepIn K (.ref fhdInit) = true)
    (atoInit : PySem.W.findIn K (.ref Cto) "__init__" = some (some (.ref ftoInit)))
    (itoInit : PySem.W.isFn K (.ref ftoInit) = true)
    (ltoInit : K.lookup ftoInit = some ⟨octoInit, odtoInit, .func (PySem.W.fnOf "__init__" "TakeOff.__init__" (defArgs sToInit) (defBody sToInit) (defScope sToInit) .none kVtoInit dctoInit pmtoInit antoInit cdtoInit cttoInit), sltoInit⟩)
    (ctoInit : PySem.W.codeIn K cdtoInit "TakeOff.__init__" = true)
    (ktoInit : PySem.W.keepIn K (.ref ftoInit) = true)
    (astInit : PySem.W.findIn K (.ref Cst) "__init__" = some (some (.ref fstInit)))
    (istInit : PySem.W.isFn K (.ref fstInit) = true)
    (lstInit : K.lookup fstInit = some ⟨ocstInit, odstInit, .func (PySem.W.fnOf "__init__" "Step.__init__" (defArgs sStInit) (defBody sStInit) (defScope sStInit) (.ref dT) kVstInit dcstInit pmstInit anstInit cdstInit ctstInit), slstInit⟩)
    (cstInit : PySem.W.codeIn K cdstInit "Step.__init__" = true)
    (kstInit : PySem.W.keepIn K (.ref fstInit) = true)
    (lT : K.lookup dT = some ⟨ocT, odT, .seq #[.ref dE, .int 1 tkT] nT, slT⟩)
    (amaInit : PySem.W.findIn K (.ref Cma) "__init__" = some (some (.ref fmaInit)))
    (imaInit : PySem.W.isFn K (.ref fmaInit) = true)
    (lmaInit : K.lookup fmaInit = some ⟨ocmaInit, odmaInit, .func (PySem.W.fnOf "__init__" "Machine.__init__" (defArgs sMaInit) (defBody sMaInit) (defScope sMaInit) .none kVmaInit dcmaInit pmmaInit anmaInit cdmaInit ctmaInit), slmaInit⟩)
    (cmaInit : PySem.W.codeIn K cdmaInit "Machine.__init__" = true)
    (kmaInit : PySem.W.keepIn K (.ref fmaInit) = true)
    (atkStep : PySem.W.findIn K (.ref Ctk) "step_at" = some (some (.ref ftkStep)))
    (itkStep : PySem.W.isFn K (.ref ftkStep) = true)
    (ltkStep : K.lookup ftkStep = some ⟨octkStep, odtkStep, .func (PySem.W.fnOf "step_at" "Takings.step_at" (defArgs sTkStep) (defBody sTkStep) (defScope sTkStep) .none kVtkStep dctkStep pmtkStep antkStep cdtkStep cttkStep), sltkStep⟩)
    (ctkStep : PySem.W.codeIn K cdtkStep "Takings.step_at" = true)
    (ktkStep : PySem.W.keepIn K (.ref ftkStep) = true)
    (atkEntry : PySem.W.findIn K (.ref Ctk) "entry" = some (some (.ref ftkEntry)))
    (itkEntry : PySem.W.isFn K (.ref ftkEntry) = true)
    (ltkEntry : K.lookup ftkEntry = some ⟨octkEntry, odtkEntry, .func (PySem.W.fnOf "entry" "Takings.entry" (defArgs sTkEntry) (defBody sTkEntry) (defScope sTkEntry) .none kVtkEntry dctkEntry pmtkEntry antkEntry cdtkEntry cttkEntry), sltkEntry⟩)
    (ctkEntry : PySem.W.codeIn K cdtkEntry "Takings.entry" = true)
    (ktkEntry : PySem.W.keepIn K (.ref ftkEntry) = true)
    (atkRead : PySem.W.findIn K (.ref Ctk) "read" = some (some (.ref ftkRead)))
    (itkRead : PySem.W.isFn K (.ref ftkRead) = true)
    (ltkRead : K.lookup ftkRead = some ⟨octkRead, odtkRead, .func (PySem.W.fnOf "read" "Takings.read" (defArgs sTkRead) (defBody sTkRead) (defScope sTkRead) .none kVtkRead dctkRead pmtkRead antkRead cdtkRead cttkRead), sltkRead⟩)
    (ctkRead : PySem.W.codeIn K cdtkRead "Takings.read" = true)
    (ktkRead : PySem.W.keepIn K (.ref ftkRead) = true)
    (atkMove : PySem.W.findIn K (.ref Ctk) "move" = some (some (.ref ftkMove)))
    (itkMove : PySem.W.isFn K (.ref ftkMove) = true)
    (ltkMove : K.lookup ftkMove = some ⟨octkMove, odtkMove, .func (PySem.W.fnOf "move" "Takings.move" (defArgs sTkMove) (defBody sTkMove) (defScope sTkMove) .none kVtkMove dctkMove pmtkMove antkMove cdtkMove cttkMove), sltkMove⟩)
    (ctkMove : PySem.W.codeIn K cdtkMove "Takings.move" = true)
    (ktkMove : PySem.W.keepIn K (.ref ftkMove) = true)
    (atbFrom : PySem.W.findIn K (.ref Ctb) "from_head" = some (some (.ref ftbFrom)))
    (itbFrom : PySem.W.isFn K (.ref ftbFrom) = true)
    (ltbFrom : K.lookup ftbFrom = some ⟨octbFrom, odtbFrom, .func (PySem.W.fnOf "from_head" "Table.from_head" (defArgs sTbFrom) (defBody sTbFrom) (defScope sTbFrom) .none kVtbFrom dctbFrom pmtbFrom antbFrom cdtbFrom cttbFrom), sltbFrom⟩)
    (ctbFrom : PySem.W.codeIn K cdtbFrom "Table.from_head" = true)
    (ktbFrom : PySem.W.keepIn K (.ref ftbFrom) = true)
    (atbClosed : PySem.W.findIn K (.ref Ctb) "is_closed" = some (some (.ref ftbClosed)))
    (itbClosed : PySem.W.isFn K (.ref ftbClosed) = true)
    (ltbClosed : K.lookup ftbClosed = some ⟨octbClosed, odtbClosed, .func (PySem.W.fnOf "is_closed" "Table.is_closed" (defArgs sTbClosed) (defBody sTbClosed) (defScope sTbClosed) .none kVtbClosed dctbClosed pmtbClosed antbClosed cdtbClosed cttbClosed), sltbClosed⟩)
    (ctbClosed : PySem.W.codeIn K cdtbClosed "Table.is_closed" = true)
    (ktbClosed : PySem.W.keepIn K (.ref ftbClosed) = true)
    (atbEdges : PySem.W.findIn K (.ref Ctb) "edges_of" = some (some (.ref ftbEdges)))
    (itbEdges : PySem.W.isFn K (.ref ftbEdges) = true)
    (ltbEdges : K.lookup ftbEdges = some ⟨octbEdges, odtbEdges, .func (PySem.W.fnOf "edges_of" "Table.edges_of" (defArgs sTbEdges) (defBody sTbEdges) (defScope sTbEdges) .none kVtbEdges dctbEdges pmtbEdges antbEdges cdtbEdges cttbEdges), sltbEdges⟩)
    (ctbEdges : PySem.W.codeIn K cdtbEdges "Table.edges_of" = true)
    (ktbEdges : PySem.W.keepIn K (.ref ftbEdges) = true)
    (arwMissing : PySem.W.findIn K (.ref Crw) "missing" = some (some (.ref frwMissing)))
    (irwMissing : PySem.W.isFn K (.ref frwMissing) = true)
    (lrwMissing : K.lookup frwMissing = some ⟨ocrwMissing, odrwMissing, .func (PySem.W.fnOf "missing" "Rows.missing" (defArgs sRwMissing) (defBody sRwMissing) (defScope sRwMissing) .none kVrwMissing dcrwMissing pmrwMissing anrwMissing cdrwMissing ctrwMissing), slrwMissing⟩)
    (crwMissing : PySem.W.codeIn K cdrwMissing "Rows.missing" = true)
    (krwMissing : PySem.W.keepIn K (.ref frwMissing) = true)
    (arwAdd : PySem.W.findIn K (.ref Crw) "add" = some (some (.ref frwAdd)))
    (irwAdd : PySem.W.isFn K (.ref frwAdd) = true)
    (lrwAdd : K.lookup frwAdd = some ⟨ocrwAdd, odrwAdd, .func (PySem.W.fnOf "add" "Rows.add" (defArgs sRwAdd) (defBody sRwAdd) (defScope sRwAdd) .none kVrwAdd dcrwAdd pmrwAdd anrwAdd cdrwAdd ctrwAdd), slrwAdd⟩)
    (crwAdd : PySem.W.codeIn K cdrwAdd "Rows.add" = true)
    (krwAdd : PySem.W.keepIn K (.ref frwAdd) = true)
    (ahdPut : PySem.W.findIn K (.ref Chd) "put" = some (some (.ref fhdPut)))
    (ihdPut : PySem.W.isFn K (.ref fhdPut) = true)
    (lhdPut : K.lookup fhdPut = some ⟨ochdPut, odhdPut, .func (PySem.W.fnOf "put" "Heads.put" (defArgs sHdPut) (defBody sHdPut) (defScope sHdPut) .none kVhdPut dchdPut pmhdPut anhdPut cdhdPut cthdPut), slhdPut⟩)
    (chdPut : PySem.W.codeIn K cdhdPut "Heads.put" = true)
    (khdPut : PySem.W.keepIn K (.ref fhdPut) = true)
    (ahdMoves : PySem.W.findIn K (.ref Chd) "moves_from" = some (some (.ref fhdMoves)))
    (ihdMoves : PySem.W.isFn K (.ref fhdMoves) = true)
    (lhdMoves : K.lookup fhdMoves = some ⟨ochdMoves, odhdMoves, .func (PySem.W.fnOf "moves_from" "Heads.moves_from" (defArgs sHdMoves) (defBody sHdMoves) (defScope sHdMoves) .none kVhdMoves dchdMoves pmhdMoves anhdMoves cdhdMoves cthdMoves), slhdMoves⟩)
    (chdMoves : PySem.W.codeIn K cdhdMoves "Heads.moves_from" = true)
    (khdMoves : PySem.W.keepIn K (.ref fhdMoves) = true)
    (ahdReached : PySem.W.findIn K (.ref Chd) "reached" = some (some (.ref fhdReached)))
    (ihdReached : PySem.W.isFn K (.ref fhdReached) = true)
    (lhdReached : K.lookup fhdReached = some ⟨ochdReached, odhdReached, .func (PySem.W.fnOf "reached" "Heads.reached" (defArgs sHdReached) (defBody sHdReached) (defScope sHdReached) .none kVhdReached dchdReached pmhdReached anhdReached cdhdReached cthdReached), slhdReached⟩)
    (chdReached : PySem.W.codeIn K cdhdReached "Heads.reached" = true)
    (khdReached : PySem.W.keepIn K (.ref fhdReached) = true)
    (atoEntries : PySem.W.findIn K (.ref Cto) "entries" = some (some (.ref ftoEntries)))
    (itoEntries : PySem.W.isFn K (.ref ftoEntries) = true)
    (ltoEntries : K.lookup ftoEntries = some ⟨octoEntries, odtoEntries, .func (PySem.W.fnOf "entries" "TakeOff.entries" (defArgs sToEntries) (defBody sToEntries) (defScope sToEntries) .none kVtoEntries dctoEntries pmtoEntries antoEntries cdtoEntries cttoEntries), sltoEntries⟩)
    (ctoEntries : PySem.W.codeIn K cdtoEntries "TakeOff.entries" = true)
    (ktoEntries : PySem.W.keepIn K (.ref ftoEntries) = true)
    (atoUse : PySem.W.findIn K (.ref Cto) "use" = some (some (.ref ftoUse)))
    (itoUse : PySem.W.isFn K (.ref ftoUse) = true)
    (ltoUse : K.lookup ftoUse = some ⟨octoUse, odtoUse, .func (PySem.W.fnOf "use" "TakeOff.use" (defArgs sToUse) (defBody sToUse) (defScope sToUse) .none kVtoUse dctoUse pmtoUse antoUse cdtoUse cttoUse), sltoUse⟩)
    (ctoUse : PySem.W.codeIn K cdtoUse "TakeOff.use" = true)
    (ktoUse : PySem.W.keepIn K (.ref ftoUse) = true)
    (atakings : PySem.W.nsIn K mainGlobals "takings_of" = some (some (.ref ftakings)))
    (ltakings : K.lookup ftakings = some ⟨octakings, odtakings, .func (PySem.W.fnOf "takings_of" "takings_of" (defArgs sTakings) (defBody sTakings) (defScope sTakings) .none kVtakings dctakings pmtakings antakings cdtakings cttakings), sltakings⟩)
    (ctakings : PySem.W.codeIn K cdtakings "takings_of" = true)
    (ktakings : PySem.W.keepIn K (.ref ftakings) = true)
    (abehind : PySem.W.nsIn K mainGlobals "head_behind" = some (some (.ref fbehind)))
    (lbehind : K.lookup fbehind = some ⟨ocbehind, odbehind, .func (PySem.W.fnOf "head_behind" "head_behind" (defArgs sBehind) (defBody sBehind) (defScope sBehind) .none kVbehind dcbehind pmbehind anbehind cdbehind ctbehind), slbehind⟩)
    (cbehind : PySem.W.codeIn K cdbehind "head_behind" = true)
    (kbehind : PySem.W.keepIn K (.ref fbehind) = true)
    (awalk : PySem.W.nsIn K mainGlobals "walk" = some (some (.ref fwalk)))
    (lwalk : K.lookup fwalk = some ⟨ocwalk, odwalk, .func (PySem.W.fnOf "walk" "walk" (defArgs sWalk) (defBody sWalk) (defScope sWalk) .none kVwalk dcwalk pmwalk anwalk cdwalk ctwalk), slwalk⟩)
    (cwalk : PySem.W.codeIn K cdwalk "walk" = true)
    (kwalk : PySem.W.keepIn K (.ref fwalk) = true)
    (aisHead : PySem.W.nsIn K mainGlobals "is_head" = some (some (.ref fisHead)))
    (lisHead : K.lookup fisHead = some ⟨ocisHead, odisHead, .func (PySem.W.fnOf "is_head" "is_head" (defArgs sIsHead) (defBody sIsHead) (defScope sIsHead) .none kVisHead dcisHead pmisHead anisHead cdisHead ctisHead), slisHead⟩)
    (cisHead : PySem.W.codeIn K cdisHead "is_head" = true)
    (kisHead : PySem.W.keepIn K (.ref fisHead) = true)
    (aentries : PySem.W.nsIn K mainGlobals "are_entries" = some (some (.ref fentries)))
    (lentries : K.lookup fentries = some ⟨ocentries, odentries, .func (PySem.W.fnOf "are_entries" "are_entries" (defArgs sEntries) (defBody sEntries) (defScope sEntries) .none kVentries dcentries pmentries anentries cdentries ctentries), slentries⟩)
    (centries : PySem.W.codeIn K cdentries "are_entries" = true)
    (kentries : PySem.W.keepIn K (.ref fentries) = true)
    (aranks : PySem.W.nsIn K mainGlobals "are_ranks" = some (some (.ref franks)))
    (lranks : K.lookup franks = some ⟨ocranks, odranks, .func (PySem.W.fnOf "are_ranks" "are_ranks" (defArgs sRanks) (defBody sRanks) (defScope sRanks) .none kVranks dcranks pmranks anranks cdranks ctranks), slranks⟩)
    (cranks : PySem.W.codeIn K cdranks "are_ranks" = true)
    (kranks : PySem.W.keepIn K (.ref franks) = true)
    (afalls : PySem.W.nsIn K mainGlobals "falls" = some (some (.ref ffalls)))
    (lfalls : K.lookup ffalls = some ⟨ocfalls, odfalls, .func (PySem.W.fnOf "falls" "falls" (defArgs sFalls) (defBody sFalls) (defScope sFalls) .none kVfalls dcfalls pmfalls anfalls cdfalls ctfalls), slfalls⟩)
    (cfalls : PySem.W.codeIn K cdfalls "falls" = true)
    (kfalls : PySem.W.keepIn K (.ref ffalls) = true)
    (astarts : PySem.W.nsIn K mainGlobals "has_starts" = some (some (.ref fstarts)))
    (lstarts : K.lookup fstarts = some ⟨ocstarts, odstarts, .func (PySem.W.fnOf "has_starts" "has_starts" (defArgs sStarts) (defBody sStarts) (defScope sStarts) .none kVstarts dcstarts pmstarts anstarts cdstarts ctstarts), slstarts⟩)
    (cstarts : PySem.W.codeIn K cdstarts "has_starts" = true)
    (kstarts : PySem.W.keepIn K (.ref fstarts) = true)
    (aever : PySem.W.nsIn K mainGlobals "shows_ever" = some (some (.ref fever)))
    (lever : K.lookup fever = some ⟨ocever, odever, .func (PySem.W.fnOf "shows_ever" "shows_ever" (defArgs sEver) (defBody sEver) (defScope sEver) .none kVever dcever pmever anever cdever ctever), slever⟩)
    (cever : PySem.W.codeIn K cdever "shows_ever" = true)
    (kever : PySem.W.keepIn K (.ref fever) = true)
    (anot_ : PySem.W.nsIn K mainGlobals "shows_not" = some (some (.ref fnot_)))
    (lnot_ : K.lookup fnot_ = some ⟨ocnot_, odnot_, .func (PySem.W.fnOf "shows_not" "shows_not" (defArgs sNot) (defBody sNot) (defScope sNot) .none kVnot_ dcnot_ pmnot_ annot_ cdnot_ ctnot_), slnot_⟩)
    (cnot_ : PySem.W.codeIn K cdnot_ "shows_not" = true)
    (knot_ : PySem.W.keepIn K (.ref fnot_) = true)
    (atakes : PySem.W.nsIn K mainGlobals "takes_endless" = some (some (.ref ftakes)))
    (ltakes : K.lookup ftakes = some ⟨octakes, odtakes, .func (PySem.W.fnOf "takes_endless" "takes_endless" (defArgs sTakes) (defBody sTakes) (defScope sTakes) .none kVtakes dctakes pmtakes antakes cdtakes cttakes), sltakes⟩)
    (ctakes : PySem.W.codeIn K cdtakes "takes_endless" = true)
    (ktakes : PySem.W.keepIn K (.ref ftakes) = true)
    (awayTo : PySem.W.nsIn K mainGlobals "way_to" = some (some (.ref fwayTo)))
    (lwayTo : K.lookup fwayTo = some ⟨ocwayTo, odwayTo, .func (PySem.W.fnOf "way_to" "way_to" (defArgs sWayTo) (defBody sWayTo) (defScope sWayTo) .none kVwayTo dcwayTo pmwayTo anwayTo cdwayTo ctwayTo), slwayTo⟩)
    (cwayTo : PySem.W.codeIn K cdwayTo "way_to" = true)
    (kwayTo : PySem.W.keepIn K (.ref fwayTo) = true)
    (adescents : PySem.W.nsIn K mainGlobals "descents" = some (some (.ref fdescents)))
    (ldescents : K.lookup fdescents = some ⟨ocdescents, oddescents, .func (PySem.W.fnOf "descents" "descents" (defArgs sDescents) (defBody sDescents) (defScope sDescents) .none kVdescents dcdescents pmdescents andescents cddescents ctdescents), sldescents⟩)
    (cdescents : PySem.W.codeIn K cddescents "descents" = true)
    (kdescents : PySem.W.keepIn K (.ref fdescents) = true)
    (aringAt : PySem.W.nsIn K mainGlobals "ring_at" = some (some (.ref fringAt)))
    (lringAt : K.lookup fringAt = some ⟨ocringAt, odringAt, .func (PySem.W.fnOf "ring_at" "ring_at" (defArgs sRingAt) (defBody sRingAt) (defScope sRingAt) .none kVringAt dcringAt pmringAt anringAt cdringAt ctringAt), slringAt⟩)
    (cringAt : PySem.W.codeIn K cdringAt "ring_at" = true)
    (kringAt : PySem.W.keepIn K (.ref fringAt) = true)
    (atoldRanks : PySem.W.nsIn K mainGlobals "told_ranks" = some (some (.ref ftoldRanks)))
    (ltoldRanks : K.lookup ftoldRanks = some ⟨octoldRanks, odtoldRanks, .func (PySem.W.fnOf "told_ranks" "told_ranks" (defArgs sToldRanks) (defBody sToldRanks) (defScope sToldRanks) .none kVtoldRanks dctoldRanks pmtoldRanks antoldRanks cdtoldRanks cttoldRanks), sltoldRanks⟩)
    (ctoldRanks : PySem.W.codeIn K cdtoldRanks "told_ranks" = true)
    (ktoldRanks : PySem.W.keepIn K (.ref ftoldRanks) = true)
    (atoldMoves : PySem.W.nsIn K mainGlobals "told_moves" = some (some (.ref ftoldMoves)))
    (ltoldMoves : K.lookup ftoldMoves = some ⟨octoldMoves, odtoldMoves, .func (PySem.W.fnOf "told_moves" "told_moves" (defArgs sToldMoves) (defBody sToldMoves) (defScope sToldMoves) .none kVtoldMoves dctoldMoves pmtoldMoves antoldMoves cdtoldMoves cttoldMoves), sltoldMoves⟩)
    (ctoldMoves : PySem.W.codeIn K cdtoldMoves "told_moves" = true)
    (ktoldMoves : PySem.W.keepIn K (.ref ftoldMoves) = true)
    (aendless : PySem.W.nsIn K mainGlobals "endless" = some (some (.ref fendless)))
    (lendless : K.lookup fendless = some ⟨ocendless, odendless, .func (PySem.W.fnOf "endless" "endless" (defArgs sEndless) (defBody sEndless) (defScope sEndless) .none kVendless dcendless pmendless anendless cdendless ctendless), slendless⟩)
    (cendless : PySem.W.codeIn K cdendless "endless" = true)
    (kendless : PySem.W.keepIn K (.ref fendless) = true)
    (afits : PySem.W.nsIn K mainGlobals "fits" = some (some (.ref ffits)))
    (lfits : K.lookup ffits = some ⟨ocfits, odfits, .func (PySem.W.fnOf "fits" "fits" (defArgs sFits) (defBody sFits) (defScope sFits) .none kVfits dcfits pmfits anfits cdfits ctfits), slfits⟩)
    (cfits : PySem.W.codeIn K cdfits "fits" = true)
    (kfits : PySem.W.keepIn K (.ref ffits) = true)
    (anumbers : PySem.W.nsIn K mainGlobals "_law_numbers" = some (some (.ref fnumbers)))
    (lnumbers : K.lookup fnumbers = some ⟨ocnumbers, odnumbers, .func (PySem.W.fnOf "_law_numbers" "_law_numbers" (defArgs sNumbers) (defBody sNumbers) (defScope sNumbers) .none kVnumbers dcnumbers pmnumbers annumbers cdnumbers ctnumbers), slnumbers⟩)
    (cnumbers : PySem.W.codeIn K cdnumbers "_law_numbers" = true)
    (knumbers : PySem.W.keepIn K (.ref fnumbers) = true)
    (arows : PySem.W.nsIn K mainGlobals "_law_rows" = some (some (.ref frows)))
    (lrows : K.lookup frows = some ⟨ocrows, odrows, .func (PySem.W.fnOf "_law_rows" "_law_rows" (defArgs sRows) (defBody sRows) (defScope sRows) .none kVrows dcrows pmrows anrows cdrows ctrows), slrows⟩)
    (crows : PySem.W.codeIn K cdrows "_law_rows" = true)
    (krows : PySem.W.keepIn K (.ref frows) = true)
    (amachine : PySem.W.nsIn K mainGlobals "_law_machine" = some (some (.ref fmachine)))
    (lmachine : K.lookup fmachine = some ⟨ocmachine, odmachine, .func (PySem.W.fnOf "_law_machine" "_law_machine" (defArgs sMachine) (defBody sMachine) (defScope sMachine) .none kVmachine dcmachine pmmachine anmachine cdmachine ctmachine), slmachine⟩)
    (cmachine : PySem.W.codeIn K cdmachine "_law_machine" = true)
    (kmachine : PySem.W.keepIn K (.ref fmachine) = true)
    (amade : PySem.W.nsIn K mainGlobals "_law_made" = some (some (.ref fmade)))
    (lmade : K.lookup fmade = some ⟨ocmade, odmade, .func (PySem.W.fnOf "_law_made" "_law_made" (defArgs sMade) (defBody sMade) (defScope sMade) .none kVmade dcmade pmmade anmade cdmade ctmade), slmade⟩)
    (cmade : PySem.W.codeIn K cdmade "_law_made" = true)
    (kmade : PySem.W.keepIn K (.ref fmade) = true)
    (aconf : PySem.W.nsIn K mainGlobals "_law_configuration" = some (some (.ref fconf)))
    (lconf : K.lookup fconf = some ⟨occonf, odconf, .func (PySem.W.fnOf "_law_configuration" "_law_configuration" (defArgs sConf) (defBody sConf) (defScope sConf) .none kVconf dcconf pmconf anconf cdconf ctconf), slconf⟩)
    (cconf : PySem.W.codeIn K cdconf "_law_configuration" = true)
    (kconf : PySem.W.keepIn K (.ref fconf) = true)
    (amarks : PySem.W.nsIn K mainGlobals "_law_marks" = some (some (.ref fmarks)))
    (lmarks : K.lookup fmarks = some ⟨ocmarks, odmarks, .func (PySem.W.fnOf "_law_marks" "_law_marks" (defArgs sMarks) (defBody sMarks) (defScope sMarks) .none kVmarks dcmarks pmmarks anmarks cdmarks ctmarks), slmarks⟩)
    (cmarks : PySem.W.codeIn K cdmarks "_law_marks" = true)
    (kmarks : PySem.W.keepIn K (.ref fmarks) = true)
    (alaw : PySem.W.nsIn K mainGlobals "law" = some (some (.ref flaw)))
    (llaw : K.lookup flaw = some ⟨oclaw, odlaw, .func (PySem.W.fnOf "law" "law" (defArgs sLaw) (defBody sLaw) (defScope sLaw) .none kVlaw dclaw pmlaw anlaw cdlaw ctlaw), sllaw⟩)
    (claw : PySem.W.codeIn K cdlaw "law" = true)
    (klaw : PySem.W.keepIn K (.ref flaw) = true)
    (zlen : PySem.W.nsIn K mainGlobals "len" = some none)
    (zzip : PySem.W.nsIn K mainGlobals "zip" = some none)
    (zenumerate : PySem.W.nsIn K mainGlobals "enumerate" = some none)
    (zlist : PySem.W.nsIn K mainGlobals "list" = some none)
    (ztuple : PySem.W.nsIn K mainGlobals "tuple" = some none)
    (zsorted : PySem.W.nsIn K mainGlobals "sorted" = some none)
    (zrange : PySem.W.nsIn K mainGlobals "range" = some none)
    (zall : PySem.W.nsIn K mainGlobals "all" = some none)
    (zint : PySem.W.nsIn K mainGlobals "int" = some none) :
    ∃ fd : FuncData, (∀ (s : Shared) (v : Value), BindsTo s fd ⟨[v], []⟩ [("_law_script", v)]) ∧ ∀ base : Heap, K.In base → base.Ns mainGlobals mg → FnOk l.prog w K mg base CX0 6 fa fd ["_law_script"] (spLaw K) := by
  have e := hfa.symm.trans (PySem.W.mg_of X G alaw)
  cases e
  have T : Txt K mg ⟨Cst, Cma, Ctk, Ctb, Crw, Chd, Cto⟩ := {
    tk := ⟨⟨pgtk, hdtk, potk, satk⟩, noAll ["steps", "marks", "entries"] (⟨ntk0, ⟨ntk1, ⟨ntk2, True.intro⟩⟩⟩)⟩
    tb := ⟨⟨pgtb, hdtb, potb, satb⟩, noAll ["known", "by_head"] (⟨ntb0, ⟨ntb1, True.intro⟩⟩)⟩
    rw := ⟨⟨pgrw, hdrw, porw, sarw⟩, noAll ["found", "places", "rows"] (⟨nrw0, ⟨nrw1, ⟨nrw2, True.intro⟩⟩⟩)⟩
    hd := ⟨⟨pghd, hdhd, pohd, sahd⟩, noAll ["moves"] (⟨nhd0, True.intro⟩)⟩
    to := ⟨⟨pgto, hdto, poto, sato⟩, noAll ["machine", "marked", "found", "leaving"] (⟨nto0, ⟨nto1, ⟨nto2, ⟨nto3, True.intro⟩⟩⟩⟩)⟩
    st := ⟨⟨pgst, hdst, post, sast⟩, noAll ["state", "letter", "goal", "laid", "weight"] (⟨nst0, ⟨nst1, ⟨nst2, ⟨nst3, ⟨nst4, True.intro⟩⟩⟩⟩⟩)⟩
    ma := ⟨⟨pgma, hdma, poma, sama⟩, noAll ["states", "letters", "steps"] (⟨nma0, ⟨nma1, ⟨nma2, True.intro⟩⟩⟩)⟩
    mtk := PySem.W.mg_of X G aCtk
    mtb := PySem.W.mg_of X G aCtb
    mrw := PySem.W.mg_of X G aCrw
    mhd := PySem.W.mg_of X G aChd
    mto := PySem.W.mg_of X G aCto
    mst := PySem.W.mg_of X G aCst
    mma := PySem.W.mg_of X G aCma
    bl := blAll _ (⟨PySem.W.mg_none_of X G zlen, ⟨PySem.W.mg_none_of X G zzip, ⟨PySem.W.mg_none_of X G zenumerate, ⟨PySem.W.mg_none_of X G zlist, ⟨PySem.W.mg_none_of X G ztuple, ⟨PySem.W.mg_none_of X G zsorted, ⟨PySem.W.mg_none_of X G zrange, ⟨PySem.W.mg_none_of X G zall, ⟨PySem.W.mg_none_of X G zint, True.intro⟩⟩⟩⟩⟩⟩⟩⟩⟩)
    tkInit := ⟨ftkInit, _, fun_mk (st := sTkInit) ltkInit ctkInit ktkInit, (fun_mk (st := sTkInit) ltkInit ctkInit ktkInit).binds (ps := ["self", "machine", "marks"]) fun _ _ _ _ _ _ us hl => match us, hl with | [_, _, _], _ => rfl, ⟨mktk, atkInit, itkInit, kctk⟩⟩
    tkStep := ⟨ftkStep, _, fun_mk (st := sTkStep) ltkStep ctkStep ktkStep, (fun_mk (st := sTkStep) ltkStep ctkStep ktkStep).binds (ps := ["self", "index"]) fun _ _ _ _ _ _ us hl => match us, hl with | [_, _], _ => rfl, ⟨atkStep, itkStep, ktkStep⟩⟩
    tkEntry := ⟨ftkEntry, _, fun_mk (st := sTkEntry) ltkEntry ctkEntry ktkEntry, (fun_mk (st := sTkEntry) ltkEntry ctkEntry ktkEntry).binds (ps := ["self", "index", "state", "letter"]) fun _ _ _ _ _ _ us hl => match us, hl with | [_, _, _, _], _ => rfl, ⟨atkEntry, itkEntry, ktkEntry⟩⟩
    tkRead := ⟨ftkRead, _, fun_mk (st := sTkRead) ltkRead ctkRead ktkRead, (fun_mk (st := sTkRead) ltkRead ctkRead ktkRead).binds (ps := ["self", "row"]) fun _ _ _ _ _ _ us hl => match us, hl with | [_, _], _ => rfl, ⟨atkRead, itkRead, ktkRead⟩⟩
    tkMove := ⟨ftkMove, _, fun_mk (st := sTkMove) ltkMove ctkMove ktkMove, (fun_mk (st := sTkMove) ltkMove ctkMove ktkMove).binds (ps := ["self", "pair"]) fun _ _ _ _ _ _ us hl => match us, hl with | [_, _], _ => rfl, ⟨atkMove, itkMove, ktkMove⟩⟩
    takings := ⟨ftakings, _, fun_mk (st := sTakings) ltakings ctakings ktakings, (fun_mk (st := sTakings) ltakings ctakings ktakings).binds (ps := ["machine", "marks", "rows"]) fun _ _ _ _ _ _ us hl => match us, hl with | [_, _, _], _ => rfl, PySem.W.mg_of X G atakings⟩
    behind := ⟨fbehind, _, fun_mk (st := sBehind) lbehind cbehind kbehind, (fun_mk (st := sBehind) lbehind cbehind kbehind).binds (ps := ["takings", "configuration", "descent"]) fun _ _ _ _ _ _ us hl => match us, hl with | [_, _, _], _ => rfl, PySem.W.mg_of X G abehind⟩
    walk := ⟨fwalk, _, fun_mk (st := sWalk) lwalk cwalk kwalk, (fun_mk (st := sWalk) lwalk cwalk kwalk).binds (ps := ["takings", "head", "moves"]) fun _ _ _ _ _ _ us hl => match us, hl with | [_, _, _], _ => rfl, PySem.W.mg_of X G awalk⟩
    tbInit := ⟨ftbInit, _, fun_mk (st := sTbInit) ltbInit ctbInit ktbInit, (fun_mk (st := sTbInit) ltbInit ctbInit ktbInit).binds (ps := ["self", "entries"]) fun _ _ _ _ _ _ us hl => match us, hl with | [_, _], _ => rfl, ⟨mktb, atbInit, itbInit, kctb⟩⟩
    tbFrom := ⟨ftbFrom, _, fun_mk (st := sTbFrom) ltbFrom ctbFrom ktbFrom, (fun_mk (st := sTbFrom) ltbFrom ctbFrom ktbFrom).binds (ps := ["self", "state", "letter"]) fun _ _ _ _ _ _ us hl => match us, hl with | [_, _, _], _ => rfl, ⟨atbFrom, itbFrom, ktbFrom⟩⟩
    tbClosed := ⟨ftbClosed, _, fun_mk (st := sTbClosed) ltbClosed ctbClosed ktbClosed, (fun_mk (st := sTbClosed) ltbClosed ctbClosed ktbClosed).binds (ps := ["self", "machine", "marks"]) fun _ _ _ _ _ _ us hl => match us, hl with | [_, _, _], _ => rfl, ⟨atbClosed, itbClosed, ktbClosed⟩⟩
    tbEdges := ⟨ftbEdges, _, fun_mk (st := sTbEdges) ltbEdges ctbEdges ktbEdges, (fun_mk (st := sTbEdges) ltbEdges ctbEdges ktbEdges).binds (ps := ["self", "step", "is_marked"]) fun _ _ _ _ _ _ us hl => match us, hl with | [_, _, _], _ => rfl, ⟨atbEdges, itbEdges, ktbEdges⟩⟩
    isHead := ⟨fisHead, _, fun_mk (st := sIsHead) lisHead cisHead kisHead, (fun_mk (st := sIsHead) lisHead cisHead kisHead).binds (ps := ["machine", "state", "letter"]) fun _ _ _ _ _ _ us hl => match us, hl with | [_, _, _], _ => rfl, PySem.W.mg_of X G aisHead⟩
    entries := ⟨fentries, _, fun_mk (st := sEntries) lentries centries kentries, (fun_mk (st := sEntries) lentries centries kentries).binds (ps := ["machine", "entries"]) fun _ _ _ _ _ _ us hl => match us, hl with | [_, _], _ => rfl, PySem.W.mg_of X G aentries⟩
    ranks := ⟨franks, _, fun_mk (st := sRanks) lranks cranks kranks, (fun_mk (st := sRanks) lranks cranks kranks).binds (ps := ["machine", "ranks"]) fun _ _ _ _ _ _ us hl => match us, hl with | [_, _], _ => rfl, PySem.W.mg_of X G aranks⟩
    falls := ⟨ffalls, _, fun_mk (st := sFalls) lfalls cfalls kfalls, (fun_mk (st := sFalls) lfalls cfalls kfalls).binds (ps := ["machine", "marks", "table", "by_head"]) fun _ _ _ _ _ _ us hl => match us, hl with | [_, _, _, _], _ => rfl, PySem.W.mg_of X G afalls⟩
    starts := ⟨fstarts, _, fun_mk (st := sStarts) lstarts cstarts kstarts, (fun_mk (st := sStarts) lstarts cstarts kstarts).binds (ps := ["table", "by_head", "configuration"]) fun _ _ _ _ _ _ us hl => match us, hl with | [_, _, _], _ => rfl, PySem.W.mg_of X G astarts⟩
    ever := ⟨fever, _, fun_mk (st := sEver) lever cever kever, (fun_mk (st := sEver) lever cever kever).binds (ps := ["machine", "marks", "configuration", "paper"]) fun _ _ _ _ _ _ us hl => match us, hl with | [_, _, _, _], _ => rfl, PySem.W.mg_of X G aever⟩
    not_ := ⟨fnot_, _, fun_mk (st := sNot) lnot_ cnot_ knot_, (fun_mk (st := sNot) lnot_ cnot_ knot_).binds (ps := ["machine", "marks", "configuration", "paper"]) fun _ _ _ _ _ _ us hl => match us, hl with | [_, _, _, _], _ => rfl, PySem.W.mg_of X G anot_⟩
    takes := ⟨ftakes, _, fun_mk (st := sTakes) ltakes ctakes ktakes, (fun_mk (st := sTakes) ltakes ctakes ktakes).binds (ps := ["machine", "marked", "configuration", "verdict", "paper"]) fun _ _ _ _ _ _ us hl => match us, hl with | [_, _, _, _, _], _ => rfl, PySem.W.mg_of X G atakes⟩
    rwInit := ⟨frwInit, _, fun_mk (st := sRwInit) lrwInit crwInit krwInit, (fun_mk (st := sRwInit) lrwInit crwInit krwInit).binds (ps := ["self", "found"]) fun _ _ _ _ _ _ us hl => match us, hl with | [_, _], _ => rfl, ⟨mkrw, arwInit, irwInit, kcrw⟩⟩
    rwMissing := ⟨frwMissing, _, fun_mk (st := sRwMissing) lrwMissing crwMissing krwMissing, (fun_mk (st := sRwMissing) lrwMissing crwMissing krwMissing).binds (ps := ["self", "key"]) fun _ _ _ _ _ _ us hl => match us, hl with | [_, _], _ => rfl, ⟨arwMissing, irwMissing, krwMissing⟩⟩
    rwAdd := ⟨frwAdd, _, fun_mk (st := sRwAdd) lrwAdd crwAdd krwAdd, (fun_mk (st := sRwAdd) lrwAdd crwAdd krwAdd).binds (ps := ["self", "key", "with_items"]) fun _ _ _ _ _ _ us hl => match us, hl with | [_, _, _], _ => rfl, ⟨arwAdd, irwAdd, krwAdd⟩⟩
    hdInit := ⟨fhdInit, _, fun_mk (st := sHdInit) lhdInit chdInit khdInit, (fun_mk (st := sHdInit) lhdInit chdInit khdInit).binds (ps := ["self", "machine", "table"]) fun _ _ _ _ _ _ us hl => match us, hl with | [_, _, _], _ => rfl, ⟨mkhd, ahdInit, ihdInit, kchd⟩⟩
    hdPut := ⟨fhdPut, _, fun_mk (st := sHdPut) lhdPut chdPut khdPut, (fun_mk (st := sHdPut) lhdPut chdPut khdPut).binds (ps := ["self", "step", "move"]) fun _ _ _ _ _ _ us hl => match us, hl with | [_, _, _], _ => rfl, ⟨ahdPut, ihdPut, khdPut⟩⟩
    hdMoves := ⟨fhdMoves, _, fun_mk (st := sHdMoves) lhdMoves chdMoves khdMoves, (fun_mk (st := sHdMoves) lhdMoves chdMoves khdMoves).binds (ps := ["self", "head"]) fun _ _ _ _ _ _ us hl => match us, hl with | [_, _], _ => rfl, ⟨ahdMoves, ihdMoves, khdMoves⟩⟩
    hdReached := ⟨fhdReached, _, fun_mk (st := sHdReached) lhdReached chdReached khdReached, (fun_mk (st := sHdReached) lhdReached chdReached khdReached).binds (ps := ["self", "heads"]) fun _ _ _ _ _ _ us hl => match us, hl with | [_, _], _ => rfl, ⟨ahdReached, ihdReached, khdReached⟩⟩
    wayTo := ⟨fwayTo, _, fun_mk (st := sWayTo) lwayTo cwayTo kwayTo, (fun_mk (st := sWayTo) lwayTo cwayTo kwayTo).binds (ps := ["found", "head"]) fun _ _ _ _ _ _ us hl => match us, hl with | [_, _], _ => rfl, PySem.W.mg_of X G awayTo⟩
    toInit := ⟨ftoInit, _, fun_mk (st := sToInit) ltoInit ctoInit ktoInit, (fun_mk (st := sToInit) ltoInit ctoInit ktoInit).binds (ps := ["self", "machine", "marked"]) fun _ _ _ _ _ _ us hl => match us, hl with | [_, _, _], _ => rfl, ⟨mkto, atoInit, itoInit, kcto⟩⟩
    toEntries := ⟨ftoEntries, _, fun_mk (st := sToEntries) ltoEntries ctoEntries ktoEntries, (fun_mk (st := sToEntries) ltoEntries ctoEntries ktoEntries).binds (ps := ["self", "state", "letter"]) fun _ _ _ _ _ _ us hl => match us, hl with | [_, _, _], _ => rfl, ⟨atoEntries, itoEntries, ktoEntries⟩⟩
    toUse := ⟨ftoUse, _, fun_mk (st := sToUse) ltoUse ctoUse ktoUse, (fun_mk (st := sToUse) ltoUse ctoUse ktoUse).binds (ps := ["self", "index"]) fun _ _ _ _ _ _ us hl => match us, hl with | [_, _], _ => rfl, ⟨atoUse, itoUse, ktoUse⟩⟩
    descents := ⟨fdescents, _, fun_mk (st := sDescents) ldescents cdescents kdescents, (fun_mk (st := sDescents) ldescents cdescents kdescents).binds (ps := ["table", "configuration"]) fun _ _ _ _ _ _ us hl => match us, hl with | [_, _], _ => rfl, PySem.W.mg_of X G adescents⟩
    ringAt := ⟨fringAt, _, fun_mk (st := sRingAt) lringAt cringAt kringAt, (fun_mk (st := sRingAt) lringAt cringAt kringAt).binds (ps := ["heads", "found"]) fun _ _ _ _ _ _ us hl => match us, hl with | [_, _], _ => rfl, PySem.W.mg_of X G aringAt⟩
    toldRanks := ⟨ftoldRanks, _, fun_mk (st := sToldRanks) ltoldRanks ctoldRanks ktoldRanks, (fun_mk (st := sToldRanks) ltoldRanks ctoldRanks ktoldRanks).binds (ps := ["heads", "found"]) fun _ _ _ _ _ _ us hl => match us, hl with | [_, _], _ => rfl, PySem.W.mg_of X G atoldRanks⟩
    toldMoves := ⟨ftoldMoves, _, fun_mk (st := sToldMoves) ltoldMoves ctoldMoves ktoldMoves, (fun_mk (st := sToldMoves) ltoldMoves ctoldMoves ktoldMoves).binds (ps := ["rows", "moves"]) fun _ _ _ _ _ _ us hl => match us, hl with | [_, _], _ => rfl, PySem.W.mg_of X G atoldMoves⟩
    endless := ⟨fendless, _, fun_mk (st := sEndless) lendless cendless kendless, (fun_mk (st := sEndless) lendless cendless kendless).binds (ps := ["machine", "marked", "configuration"]) fun _ _ _ _ _ _ us hl => match us, hl with | [_, _, _], _ => rfl, PySem.W.mg_of X G aendless⟩
    stInit := ⟨fstInit, _, dE, stF lstInit cstInit kstInit lT, stBinds (stF lstInit cstInit kstInit lT), ⟨mkst, astInit, istInit, kcst⟩⟩
    fits := ⟨ffits, _, fun_mk (st := sFits) lfits cfits kfits, (fun_mk (st := sFits) lfits cfits kfits).binds (ps := ["step", "states", "letters"]) fun _ _ _ _ _ _ us hl => match us, hl with | [_, _, _], _ => rfl, PySem.W.mg_of X G afits⟩
    maInit := ⟨fmaInit, _, fun_mk (st := sMaInit) lmaInit cmaInit kmaInit, (fun_mk (st := sMaInit) lmaInit cmaInit kmaInit).binds (ps := ["self", "states", "letters", "steps"]) fun _ _ _ _ _ _ us hl => match us, hl with | [_, _, _, _], _ => rfl, ⟨mkma, amaInit, imaInit, kcma⟩⟩
    numbers := ⟨fnumbers, _, fun_mk (st := sNumbers) lnumbers cnumbers knumbers, (fun_mk (st := sNumbers) lnumbers cnumbers knumbers).binds (ps := ["_law_script", "_law_count"]) fun _ _ _ _ _ _ us hl => match us, hl with | [_, _], _ => rfl, PySem.W.mg_of X G anumbers⟩
    rows := ⟨frows, _, fun_mk (st := sRows) lrows crows krows, (fun_mk (st := sRows) lrows crows krows).binds (ps := ["_law_numbers_here", "_law_place", "_law_states", "_law_letters", "_law_count"]) fun _ _ _ _ _ _ us hl => match us, hl with | [_, _, _, _, _], _ => rfl, PySem.W.mg_of X G arows⟩
    machine := ⟨fmachine, _, fun_mk (st := sMachine) lmachine cmachine kmachine, (fun_mk (st := sMachine) lmachine cmachine kmachine).binds (ps := ["_law_numbers_here", "_law_place"]) fun _ _ _ _ _ _ us hl => match us, hl with | [_, _], _ => rfl, PySem.W.mg_of X G amachine⟩
    made := ⟨fmade, _, fun_mk (st := sMade) lmade cmade kmade, (fun_mk (st := sMade) lmade cmade kmade).binds (ps := ["_law_parts"]) fun _ _ _ _ _ _ us hl => match us, hl with | [_], _ => rfl, PySem.W.mg_of X G amade⟩
    conf := ⟨fconf, _, fun_mk (st := sConf) lconf cconf kconf, (fun_mk (st := sConf) lconf cconf kconf).binds (ps := ["_law_number", "_law_states", "_law_letters", "_law_most"]) fun _ _ _ _ _ _ us hl => match us, hl with | [_, _, _, _], _ => rfl, PySem.W.mg_of X G aconf⟩
    marks := ⟨fmarks, _, fun_mk (st := sMarks) lmarks cmarks kmarks, (fun_mk (st := sMarks) lmarks cmarks kmarks).binds (ps := ["_law_number", "_law_count"]) fun _ _ _ _ _ _ us hl => match us, hl with | [_, _], _ => rfl, PySem.W.mg_of X G amarks⟩
  }
  exact ⟨PySem.W.fnOf "law" "law" (defArgs sLaw) (defBody sLaw) (defScope sLaw) .none kVlaw dclaw pmlaw anlaw cdlaw ctlaw, fun s v => .of_eq rfl, fun base _ _ => ok_law T (fun_mk (st := sLaw) llaw claw klaw)⟩
theorem walk {l : PySem.W.OpenLaw} {q : Program} {loose : List Str} {XP : (Str → Option Value) → Heap → Prop} {YP : World → Heap → Prop} {d : DefRec} {K : Params → PySem.W.Frag} (hn : l.most = some 63) (hdf : d.params.defaults = [])
    (hY : ∀ (w : World) (h : Heap), YP w h → (K w.params).In h)
    (F : ∀ (w : World) (mg : Str → Option Value) (fa : Addr) (h : Heap), (K w.params).In h → h.Ns mainGlobals mg → mg d.name = some (.ref fa) →
      ∃ fd : FuncData, (∀ (s : Shared) (u : Value), BindsTo s fd ⟨[u], []⟩ [("_law_script", u)]) ∧ ∀ base : Heap, (K w.params).In base → base.Ns mainGlobals mg → FnOk l.prog w (K w.params) mg base CX0 6 fa fd ["_law_script"] (spLaw (K w.params))) :
    PySem.W.WalkO q loose XP YP l.row.toRowW d [] (fun f vs => PySem.call f vs) :=
  L2.walk_of (n := 63) (k := 6) (x := "_law_script") (CX := fun _ => CX0) (sp := fun w => spLaw (K w.params)) hn (by decide) hdf ⟨rfl, by decide, by decide⟩ hY F (fun _ _ a ns hl _ hS => ⟨a, ns, rfl, hS, hl, fun _ => rfl⟩) fun _ _ _ _ _ z => z
end PW
end

section
open PySem PySem.W PyProof.Rows
set_option maxRecDepth 100000 in
set_option maxHeartbeats 0 in
open_top prHead for PySem.Challenge.rw_pilereach_k93_whole_endless_is_judged
end

open PySem PySem.W PyProof.Rows in
set_option maxRecDepth 100000 in
set_option maxHeartbeats 0 in
theorem PySem.Challenge.cw_pilereach_k93_whole_endless_is_judged_holds : PySem.Challenge.rw_pilereach_k93_whole_endless_is_judged.Holds := by
  w_on; o_law; k_head; (case hw => w_witness2)
  k_fill
  refine PW.walk (l := PySem.Challenge.rw_pilereach_k93_whole_endless_is_judged) rfl rfl (fun w h Y => PySem.W.kIn_of Y) ?F
  case F =>
    intro w mg fa h KX G hmg
    refine' PW.all_mk KX G hmg ?aCtk ?pgtk ?hdtk ?potk ?satk ?mktk ?kctk ?ntk0 ?ntk1 ?ntk2 ?aCtb ?pgtb ?hdtb ?potb ?satb ?mktb ?kctb ?ntb0 ?ntb1 ?aCrw ?pgrw ?hdrw ?porw ?sarw ?mkrw ?kcrw ?nrw0 ?nrw1 ?nrw2 ?aChd ?pghd ?hdhd ?pohd ?sahd ?mkhd ?kchd ?nhd0 ?aCto ?pgto ?hdto ?poto ?sato ?mkto ?kcto ?nto0 ?nto1 ?nto2 ?nto3 ?aCst ?pgst ?hdst ?post ?sast ?mkst ?kcst ?nst0 ?nst1 ?nst2 ?nst3 ?nst4 ?aCma ?pgma ?hdma ?poma ?sama ?mkma ?kcma ?nma0 ?nma1 ?nma2 ?atkInit ?itkInit ?ltkInit ?ctkInit ?ktkInit ?atbInit ?itbInit ?ltbInit ?ctbInit ?ktbInit ?arwInit ?irwInit ?lrwInit ?crwInit ?krwInit ?ahdInit ?ihdInit ?lhdInit ?chdInit ?khdInit ?atoInit ?itoInit ?ltoInit ?ctoInit ?ktoInit ?astInit ?istInit ?lstInit ?cstInit ?kstInit ?lT ?amaInit ?imaInit ?lmaInit ?cmaInit ?kmaInit ?atkStep ?itkStep ?ltkStep ?ctkStep ?ktkStep ?atkEntry ?itkEntry ?ltkEntry ?ctkEntry ?ktkEntry ?atkRead ?itkRead ?ltkRead ?ctkRead ?ktkRead ?atkMove ?itkMove ?ltkMove ?ctkMove ?ktkMove ?atbFrom ?itbFrom ?ltbFrom ?ctbFrom ?ktbFrom ?atbClosed ?itbClosed ?ltbClosed ?ctbClosed ?ktbClosed ?atbEdges ?itbEdges ?ltbEdges ?ctbEdges ?ktbEdges ?arwMissing ?irwMissing ?lrwMissing ?crwMissing ?krwMissing ?arwAdd ?irwAdd ?lrwAdd ?crwAdd ?krwAdd ?ahdPut ?ihdPut ?lhdPut ?chdPut ?khdPut ?ahdMoves ?ihdMoves ?lhdMoves ?chdMoves ?khdMoves ?ahdReached ?ihdReached ?lhdReached ?chdReached ?khdReached ?atoEntries ?itoEntries ?ltoEntries ?ctoEntries ?ktoEntries ?atoUse ?itoUse ?ltoUse ?ctoUse ?ktoUse ?atakings ?ltakings ?ctakings ?ktakings ?abehind ?lbehind ?cbehind ?kbehind ?awalk ?lwalk ?cwalk ?kwalk ?aisHead ?lisHead ?cisHead ?kisHead ?aentries ?lentries ?centries ?kentries ?aranks ?lranks ?cranks ?kranks ?afalls ?lfalls ?cfalls ?kfalls ?astarts ?lstarts ?cstarts ?kstarts ?aever ?lever ?cever ?kever ?anot_ ?lnot_ ?cnot_ ?knot_ ?atakes ?ltakes ?ctakes ?ktakes ?awayTo ?lwayTo ?cwayTo ?kwayTo ?adescents ?ldescents ?cdescents ?kdescents ?aringAt ?lringAt ?cringAt ?kringAt ?atoldRanks ?ltoldRanks ?ctoldRanks ?ktoldRanks ?atoldMoves ?ltoldMoves ?ctoldMoves ?ktoldMoves ?aendless ?lendless ?cendless ?kendless ?afits ?lfits ?cfits ?kfits ?anumbers ?lnumbers ?cnumbers ?knumbers ?arows ?lrows ?crows ?krows ?amachine ?lmachine ?cmachine ?kmachine ?amade ?lmade ?cmade ?kmade ?aconf ?lconf ?cconf ?kconf ?amarks ?lmarks ?cmarks ?kmarks ?alaw ?llaw ?claw ?klaw ?zlen ?zzip ?zenumerate ?zlist ?ztuple ?zsorted ?zrange ?zall ?zint
    (case aCtk => k_is)
    (case pgtk => k_is)
    (case hdtk => k_is)
    (case potk => k_is)
    (case satk => k_is)
    (case mktk => k_is)
    (case kctk => k_is)
    (case ntk0 => k_is)
    (case ntk1 => k_is)
    (case ntk2 => k_is)
    (case aCtb => k_is)
    (case pgtb => k_is)
    (case hdtb => k_is)
    (case potb => k_is)
    (case satb => k_is)
    (case mktb => k_is)
    (case kctb => k_is)
    (case ntb0 => k_is)
    (case ntb1 => k_is)
    (case aCrw => k_is)
    (case pgrw => k_is)
    (case hdrw => k_is)
    (case porw => k_is)
    (case sarw => k_is)
    (case mkrw => k_is)
    (case kcrw => k_is)
    (case nrw0 => k_is)
    (case nrw1 => k_is)
    (case nrw2 => k_is)
    (case aChd => k_is)
    (case pghd => k_is)
    (case hdhd => k_is)
    (case pohd => k_is)
    (case sahd => k_is)
    (case mkhd => k_is)
    (case kchd => k_is)
    (case nhd0 => k_is)
    (case aCto => k_is)
    (case pgto => k_is)
    (case hdto => k_is)
    (case poto => k_is)
    (case sato => k_is)
    (case mkto => k_is)
    (case kcto => k_is)
    (case nto0 => k_is)
    (case nto1 => k_is)
    (case nto2 => k_is)
    (case nto3 => k_is)
    (case aCst => k_is)
    (case pgst => k_is)
    (case hdst => k_is)
    (case post => k_is)
    (case sast => k_is)
    (case mkst => k_is)
    (case kcst => k_is)
    (case nst0 => k_is)
    (case nst1 => k_is)
    (case nst2 => k_is)
    (case nst3 => k_is)
    (case nst4 => k_is)
    (case aCma => k_is)
    (case pgma => k_is)
    (case hdma => k_is)
    (case poma => k_is)
    (case sama => k_is)
    (case mkma => k_is)
    (case kcma => k_is)
    (case nma0 => k_is)
    (case nma1 => k_is)
    (case nma2 => k_is)
    (case atkInit => k_is)
    (case itkInit => k_is)
    (case ltkInit => k_is)
    (case ctkInit => k_is)
    (case ktkInit => k_is)
    (case atbInit => k_is)
    (case itbInit => k_is)
    (case ltbInit => k_is)
    (case ctbInit => k_is)
    (case ktbInit => k_is)
    (case arwInit => k_is)
    (case irwInit => k_is)
    (case lrwInit => k_is)
    (case crwInit => k_is)
    (case krwInit => k_is)
    (case ahdInit => k_is)
    (case ihdInit => k_is)
    (case lhdInit => k_is)
    (case chdInit => k_is)
    (case khdInit => k_is)
    (case atoInit => k_is)
    (case itoInit => k_is)
    (case ltoInit => k_is)
    (case ctoInit => k_is)
    (case ktoInit => k_is)
    (case astInit => k_is)
    (case istInit => k_is)
    (case lstInit => k_is)
    (case cstInit => k_is)
    (case kstInit => k_is)
    (case lT => k_is)
    (case amaInit => k_is)
    (case imaInit => k_is)
    (case lmaInit => k_is)
    (case cmaInit => k_is)
    (case kmaInit => k_is)
    (case atkStep => k_is)
    (case itkStep => k_is)
    (case ltkStep => k_is)
    (case ctkStep => k_is)
    (case ktkStep => k_is)
    (case atkEntry => k_is)
    (case itkEntry => k_is)
    (case ltkEntry => k_is)
    (case ctkEntry => k_is)
    (case ktkEntry => k_is)
    (case atkRead => k_is)
    (case itkRead => k_is)
    (case ltkRead => k_is)
    (case ctkRead => k_is)
    (case ktkRead => k_is)
    (case atkMove => k_is)
    (case itkMove => k_is)
    (case ltkMove => k_is)
    (case ctkMove => k_is)
    (case ktkMove => k_is)
    (case atbFrom => k_is)
    (case itbFrom => k_is)
    (case ltbFrom => k_is)
    (case ctbFrom => k_is)
    (case ktbFrom => k_is)
    (case atbClosed => k_is)
    (case itbClosed => k_is)
    (case ltbClosed => k_is)
    (case ctbClosed => k_is)
    (case ktbClosed => k_is)
    (case atbEdges => k_is)
    (case itbEdges => k_is)
    (case ltbEdges => k_is)
    (case ctbEdges => k_is)
    (case ktbEdges => k_is)
    (case arwMissing => k_is)
    (case irwMissing => k_is)
    (case lrwMissing => k_is)
    (case crwMissing => k_is)
    (case krwMissing => k_is)
    (case arwAdd => k_is)
    (case irwAdd => k_is)
    (case lrwAdd => k_is)
    (case crwAdd => k_is)
    (case krwAdd => k_is)
    (case ahdPut => k_is)
    (case ihdPut => k_is)
    (case lhdPut => k_is)
    (case chdPut => k_is)
    (case khdPut => k_is)
    (case ahdMoves => k_is)
    (case ihdMoves => k_is)
    (case lhdMoves => k_is)
    (case chdMoves => k_is)
    (case khdMoves => k_is)
    (case ahdReached => k_is)
    (case ihdReached => k_is)
    (case lhdReached => k_is)
    (case chdReached => k_is)
    (case khdReached => k_is)
    (case atoEntries => k_is)
    (case itoEntries => k_is)
    (case ltoEntries => k_is)
    (case ctoEntries => k_is)
    (case ktoEntries => k_is)
    (case atoUse => k_is)
    (case itoUse => k_is)
    (case ltoUse => k_is)
    (case ctoUse => k_is)
    (case ktoUse => k_is)
    (case atakings => k_is)
    (case ltakings => k_is)
    (case ctakings => k_is)
    (case ktakings => k_is)
    (case abehind => k_is)
    (case lbehind => k_is)
    (case cbehind => k_is)
    (case kbehind => k_is)
    (case awalk => k_is)
    (case lwalk => k_is)
    (case cwalk => k_is)
    (case kwalk => k_is)
    (case aisHead => k_is)
    (case lisHead => k_is)
    (case cisHead => k_is)
    (case kisHead => k_is)
    (case aentries => k_is)
    (case lentries => k_is)
    (case centries => k_is)
    (case kentries => k_is)
    (case aranks => k_is)
    (case lranks => k_is)
    (case cranks => k_is)
    (case kranks => k_is)
    (case afalls => k_is)
    (case lfalls => k_is)
    (case cfalls => k_is)
    (case kfalls => k_is)
    (case astarts => k_is)
    (case lstarts => k_is)
    (case cstarts => k_is)
    (case kstarts => k_is)
    (case aever => k_is)
    (case lever => k_is)
    (case cever => k_is)
    (case kever => k_is)
    (case anot_ => k_is)
    (case lnot_ => k_is)
    (case cnot_ => k_is)
    (case knot_ => k_is)
    (case atakes => k_is)
    (case ltakes => k_is)
    (case ctakes => k_is)
    (case ktakes => k_is)
    (case awayTo => k_is)
    (case lwayTo => k_is)
    (case cwayTo => k_is)
    (case kwayTo => k_is)
    (case adescents => k_is)
    (case ldescents => k_is)
    (case cdescents => k_is)
    (case kdescents => k_is)
    (case aringAt => k_is)
    (case lringAt => k_is)
    (case cringAt => k_is)
    (case kringAt => k_is)
    (case atoldRanks => k_is)
    (case ltoldRanks => k_is)
    (case ctoldRanks => k_is)
    (case ktoldRanks => k_is)
    (case atoldMoves => k_is)
    (case ltoldMoves => k_is)
    (case ctoldMoves => k_is)
    (case ktoldMoves => k_is)
    (case aendless => k_is)
    (case lendless => k_is)
    (case cendless => k_is)
    (case kendless => k_is)
    (case afits => k_is)
    (case lfits => k_is)
    (case cfits => k_is)
    (case kfits => k_is)
    (case anumbers => k_is)
    (case lnumbers => k_is)
    (case cnumbers => k_is)
    (case knumbers => k_is)
    (case arows => k_is)
    (case lrows => k_is)
    (case crows => k_is)
    (case krows => k_is)
    (case amachine => k_is)
    (case lmachine => k_is)
    (case cmachine => k_is)
    (case kmachine => k_is)
    (case amade => k_is)
    (case lmade => k_is)
    (case cmade => k_is)
    (case kmade => k_is)
    (case aconf => k_is)
    (case lconf => k_is)
    (case cconf => k_is)
    (case kconf => k_is)
    (case amarks => k_is)
    (case lmarks => k_is)
    (case cmarks => k_is)
    (case kmarks => k_is)
    (case alaw => k_is)
    (case llaw => k_is)
    (case claw => k_is)
    (case klaw => k_is)
    (case zlen => k_is)
    (case zzip => k_is)
    (case zenumerate => k_is)
    (case zlist => k_is)
    (case ztuple => k_is)
    (case zsorted => k_is)
    (case zrange => k_is)
    (case zall => k_is)
    (case zint => k_is)
#print axioms PySem.Challenge.cw_pilereach_k93_whole_endless_is_judged_holds
