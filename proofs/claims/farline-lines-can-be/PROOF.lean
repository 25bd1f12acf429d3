import PyProof.Rows.All
import Wide.All
import OpenK.AllK
import Wide.FinOn
import HandS.ForMost
import KE.KDictKeyed
import KE.KDictDisplayH
import KE.KDictWalk
import KE.KDictItemsList
import PyProof.ListStr
import PyProof.CollectStr
import KE.SortData
import HandS.More
import HandS.Keys
import HandS.DictTup
import HandS.IsInst
import HandS.TupAny
import HandS.Wide
import HandS.Flow
import PySem.Challenge.RW_farline_k47_whole_what_lines_can_be
import HandS.Evl
import HandS.Walk
set_option Elab.async false
section
set_option linter.all false
set_option autoImplicit false
/-! The plain law, part 1: deeds, one behind another one, rows; the chain of letters under way; the state of two seats. -/
namespace Far

inductive Deed where
  | put (p c : Nat)
  | cut (p : Nat)
  | non
  deriving DecidableEq

def app : Deed → List Nat → List Nat
  | .put p c, l => l.insertIdx p c
  | .cut p, l => l.eraseIdx p
  | .non, l => l
def ok : Deed → List Nat → Prop
  | .put p _, l => p ≤ l.length
  | .cut p, l => p < l.length
  | .non, _ => True

/-- a deed behind another one; f: the deed is that of seat 0 -/
def mv : Deed → Deed → Bool → Deed
  | .non, _, _ => .non
  | .put p c, .non, _ => .put p c
  | .cut p, .non, _ => .cut p
  | .put p c, .put q _, f => if q < p ∨ (q = p ∧ f = false) then .put (p + 1) c else .put p c
  | .put p c, .cut q, _ => if q < p then .put (p - 1) c else .put p c
  | .cut p, .put q _, _ => if q < p ∨ q = p then .cut (p + 1) else .cut p
  | .cut p, .cut q, _ => if q < p then .cut (p - 1) else if q = p then .non else .cut p

theorem mv_non (d : Deed) (f : Bool) : mv d .non f = d := by cases d <;> rfl

set_option maxHeartbeats 4000000 in
theorem tp1 (d o : Deed) (f : Bool) (l : List Nat) (hd : ok d l) (ho : ok o l) :
    ok (mv d o f) (app o l) ∧ ok (mv o d (!f)) (app d l) ∧ app (mv d o f) (app o l) = app (mv o d (!f)) (app d l) := by
  cases d with
  | non => cases o <;> simp_all [mv, app, ok]
  | put p c =>
    cases o with
    | non => simp_all [mv, app, ok]
    | put q e =>
      simp only [ok] at hd ho
      by_cases h1 : q < p
      · have h2 : ¬ p < q := by omega
        have h3 : ¬ p = q := by omega
        simp only [mv, h1, h2, h3, true_or, false_or, false_and, if_true, if_false, ok, app, List.length_insertIdx, ho, hd]
        refine ⟨by omega, by omega, ?_⟩
        apply List.ext_getElem?
        intro j
        simp only [List.getElem?_insertIdx, List.length_insertIdx, ho, hd, if_true]
        repeat' split
        all_goals first | rfl | (exfalso; omega) | (congr 1; omega) | omega
      · by_cases h2 : p < q
        · have h3 : ¬ q = p := by omega
          simp only [mv, h1, h2, h3, true_or, false_or, false_and, if_true, if_false, ok, app, List.length_insertIdx, ho, hd]
          refine ⟨by omega, by omega, ?_⟩
          apply List.ext_getElem?
          intro j
          simp only [List.getElem?_insertIdx, List.length_insertIdx, ho, hd, if_true]
          repeat' split
          all_goals first | rfl | (exfalso; omega) | (congr 1; omega) | omega
        · have h3 : q = p := by omega
          subst h3
          cases f
          · simp only [mv, h1, true_and, false_or, Bool.not_false, if_true, if_false, reduceCtorEq, ok, app, List.length_insertIdx, ho, hd, Bool.true_eq_false]
            refine ⟨by omega, by omega, ?_⟩
            apply List.ext_getElem?
            intro j
            simp only [List.getElem?_insertIdx, List.length_insertIdx, ho, hd, if_true]
            repeat' split
            all_goals first | rfl | (exfalso; omega) | (congr 1; omega) | omega
          · simp only [mv, h1, true_and, false_or, Bool.not_true, if_true, if_false, reduceCtorEq, ok, app, List.length_insertIdx, ho, hd, Bool.true_eq_false]
            refine ⟨by omega, by omega, ?_⟩
            apply List.ext_getElem?
            intro j
            simp only [List.getElem?_insertIdx, List.length_insertIdx, ho, hd, if_true]
            repeat' split
            all_goals first | rfl | (exfalso; omega) | (congr 1; omega) | omega
    | cut q =>
      simp only [ok] at hd ho
      by_cases h1 : q < p
      · have h2 : ¬ (p < q ∨ p = q) := by omega
        simp only [mv, h1, h2, if_true, if_false, ok, app, List.length_insertIdx, List.length_eraseIdx, ho, hd]
        refine ⟨by omega, by omega, ?_⟩
        apply List.ext_getElem?
        intro j
        simp only [List.getElem?_insertIdx, List.getElem?_eraseIdx, List.length_eraseIdx, ho, hd, if_true]
        repeat' split
        all_goals first | rfl | (exfalso; omega) | (congr 1; omega) | omega
      · have h2 : p < q ∨ p = q := by omega
        simp only [mv, h1, h2, if_true, if_false, ok, app, List.length_insertIdx, List.length_eraseIdx, ho, hd]
        refine ⟨by omega, by omega, ?_⟩
        apply List.ext_getElem?
        intro j
        simp only [List.getElem?_insertIdx, List.getElem?_eraseIdx, List.length_eraseIdx, ho, hd, if_true]
        repeat' split
        all_goals first | rfl | (exfalso; omega) | (congr 1; omega) | omega
  | cut p =>
    cases o with
    | non => simp_all [mv, app, ok]
    | put q e =>
      simp only [ok] at hd ho
      by_cases h1 : p < q
      · have h2 : ¬ (q < p ∨ q = p) := by omega
        simp only [mv, h1, h2, if_true, if_false, ok, app, List.length_insertIdx, List.length_eraseIdx, ho, hd]
        refine ⟨by omega, by omega, ?_⟩
        apply List.ext_getElem?
        intro j
        simp only [List.getElem?_insertIdx, List.getElem?_eraseIdx, List.length_eraseIdx, ho, hd, if_true]
        repeat' split
        all_goals first | rfl | (exfalso; omega) | (congr 1; omega) | omega
      · have h2 : q < p ∨ q = p := by omega
        simp only [mv, h1, h2, if_true, if_false, ok, app, List.length_insertIdx, List.length_eraseIdx, ho, hd]
        refine ⟨by omega, by omega, ?_⟩
        apply List.ext_getElem?
        intro j
        simp only [List.getElem?_insertIdx, List.getElem?_eraseIdx, List.length_eraseIdx, ho, hd, if_true]
        repeat' split
        all_goals first | rfl | (exfalso; omega) | (congr 1; omega) | omega
    | cut q =>
      simp only [ok] at hd ho
      by_cases h1 : q < p
      · have h2 : ¬ p < q := by omega
        have h3 : ¬ p = q := by omega
        simp only [mv, h1, h2, h3, if_true, if_false, ok, app, List.length_eraseIdx, ho, hd]
        refine ⟨by omega, by omega, ?_⟩
        apply List.ext_getElem?
        intro j
        simp only [List.getElem?_eraseIdx]
        repeat' split
        all_goals first | rfl | (exfalso; omega) | (congr 1; omega) | omega
      · by_cases h2 : p < q
        · have h3 : ¬ q = p := by omega
          simp only [mv, h1, h2, h3, if_true, if_false, ok, app, List.length_eraseIdx, ho, hd]
          refine ⟨by omega, by omega, ?_⟩
          apply List.ext_getElem?
          intro j
          simp only [List.getElem?_eraseIdx]
          repeat' split
          all_goals first | rfl | (exfalso; omega) | (congr 1; omega) | omega
        · have h3 : q = p := by omega
          subst h3
          simp only [mv, h1, if_true, if_false, ok, app, true_and]

/-! ### rows -/
def rowApp : List Deed → List Nat → List Nat
  | [], l => l
  | d :: r, l => rowApp r (app d l)
def rowOk : List Deed → List Nat → Prop
  | [], _ => True
  | d :: r, l => ok d l ∧ rowOk r (app d l)
theorem rowApp_append (a b : List Deed) (l : List Nat) : rowApp (a ++ b) l = rowApp b (rowApp a l) := by
  induction a generalizing l with
  | nil => rfl
  | cons d r ih => exact ih _
theorem rowOk_append (a b : List Deed) (l : List Nat) : rowOk (a ++ b) l ↔ rowOk a l ∧ rowOk b (rowApp a l) := by
  induction a generalizing l with
  | nil => simp [rowOk, rowApp]
  | cons d r ih => simp only [List.cons_append, rowOk, rowApp, ih, and_assoc]
/-- a deed behind a row, and the row behind it -/
def mvB (d : Deed) : List Deed → Bool → Deed × List Deed
  | [], _ => (d, [])
  | o :: r, f => ((mvB (mv d o f) r f).1, mv o d (!f) :: (mvB (mv d o f) r f).2)
theorem mvB_length (d : Deed) (r : List Deed) (f : Bool) : (mvB d r f).2.length = r.length := by
  induction r generalizing d with
  | nil => rfl
  | cons o r ih => simp only [mvB, List.length_cons, ih]
theorem mvB_append1 (d : Deed) (a b : List Deed) (f : Bool) : (mvB d (a ++ b) f).1 = (mvB (mvB d a f).1 b f).1 := by
  induction a generalizing d with
  | nil => rfl
  | cons o r ih => simp only [List.cons_append, mvB, ih]
theorem mvB_append2 (d : Deed) (a b : List Deed) (f : Bool) : (mvB d (a ++ b) f).2 = (mvB d a f).2 ++ (mvB (mvB d a f).1 b f).2 := by
  induction a generalizing d with
  | nil => rfl
  | cons o r ih => simp only [List.cons_append, mvB, ih]
theorem mvB_ok (d : Deed) (r : List Deed) (f : Bool) (l : List Nat) (hd : ok d l) (hr : rowOk r l) :
    ok (mvB d r f).1 (rowApp r l) ∧ rowOk (mvB d r f).2 (app d l) ∧ rowApp (mvB d r f).2 (app d l) = app (mvB d r f).1 (rowApp r l) := by
  induction r generalizing d l with
  | nil => exact ⟨hd, trivial, rfl⟩
  | cons o r ih =>
    obtain ⟨ho, hr⟩ := hr
    obtain ⟨h1, h2, h3⟩ := tp1 d o f l hd ho
    obtain ⟨k1, k2, k3⟩ := ih (mv d o f) (app o l) h1 hr
    rw [h3] at k2 k3
    exact ⟨k1, ⟨h2, k2⟩, k3⟩
/-- seen from the row: each of its deeds is moved behind the deed as it then is -/
def mvRow : List Deed → Deed → Bool → List Deed × Deed
  | [], d, _ => ([], d)
  | o :: r, d, f => (mv o d f :: (mvRow r (mv d o (!f)) f).1, (mvRow r (mv d o (!f)) f).2)
theorem mvRow_eq (r : List Deed) (d : Deed) (f : Bool) : mvRow r d f = ((mvB d r (!f)).2, (mvB d r (!f)).1) := by
  induction r generalizing d with
  | nil => rfl
  | cons o r ih => simp only [mvRow, mvB, ih, Bool.not_not]

/-! ### the letters under way -/
/-- letters (t, d) made by a seat (f: it is seat 0), not come yet; bs: the other seat's deeds from its t-th on, on the line U, as far as the maker had taken them; A: the letters' deeds behind all of bs -/
def Chain (f : Bool) : List (Nat × Deed) → Nat → List Nat → List Deed → List Deed → Prop
  | [], _, _, _, A => A = []
  | (t, d) :: ls, s, U, bs, A => s ≤ t ∧ t ≤ s + bs.length ∧ ok d (rowApp (bs.take (t - s)) U) ∧ ∃ A', A = (mvB d (bs.drop (t - s)) f).1 :: A' ∧
      Chain f ls t (app d (rowApp (bs.take (t - s)) U)) (mvB d (bs.drop (t - s)) f).2 A'
theorem Chain.line {f : Bool} {ls : List (Nat × Deed)} {s : Nat} {U : List Nat} {bs A : List Deed} (h : Chain f ls s U bs A) (hb : rowOk bs U) : rowOk A (rowApp bs U) := by
  induction ls generalizing s U bs A with
  | nil => simp only [Chain] at h; subst h; trivial
  | cons x ls ih =>
    obtain ⟨t, d⟩ := x
    obtain ⟨h1, h2, h3, A', rfl, h4⟩ := h
    have e : bs = bs.take (t - s) ++ bs.drop (t - s) := (List.take_append_drop _ _).symm
    rw [e, rowOk_append] at hb
    obtain ⟨b1, b2⟩ := hb
    obtain ⟨k1, k2, k3⟩ := mvB_ok d (bs.drop (t - s)) f _ h3 b2
    have e2 : rowApp bs U = rowApp (bs.drop (t - s)) (rowApp (bs.take (t - s)) U) := by rw [← rowApp_append, ← e]
    rw [e2]
    have := ih h4 k2
    rw [k3] at this
    exact ⟨k1, this⟩
/-- a letter more, made behind all of bs -/
theorem Chain.made {f : Bool} {ls : List (Nat × Deed)} {s : Nat} {U : List Nat} {bs A : List Deed} (h : Chain f ls s U bs A) (hb : rowOk bs U) {d : Deed} (hd : ok d (rowApp A (rowApp bs U))) :
    Chain f (ls ++ [(s + bs.length, d)]) s U bs (A ++ [d]) := by
  induction ls generalizing s U bs A with
  | nil =>
    simp only [Chain] at h; subst h
    have e1 : s + bs.length - s = bs.length := by omega
    refine ⟨by omega, by omega, ?_, [], ?_, rfl⟩
    · rw [e1, List.take_length]; exact hd
    · rw [e1, List.drop_length]; rfl
  | cons x ls ih =>
    obtain ⟨t, e⟩ := x
    obtain ⟨h1, h2, h3, A', rfl, h4⟩ := h
    have eb : bs = bs.take (t - s) ++ bs.drop (t - s) := (List.take_append_drop _ _).symm
    have hb' := hb
    rw [eb, rowOk_append] at hb'
    obtain ⟨b1, b2⟩ := hb'
    obtain ⟨k1, k2, k3⟩ := mvB_ok e (bs.drop (t - s)) f _ h3 b2
    have e2 : rowApp bs U = rowApp (bs.drop (t - s)) (rowApp (bs.take (t - s)) U) := by rw [← rowApp_append, ← eb]
    have hd' : ok d (rowApp A' (rowApp (mvB e (bs.drop (t - s)) f).2 (app e (rowApp (bs.take (t - s)) U)))) := by
      rw [k3, ← e2]; exact hd
    have r := ih h4 k2 hd'
    refine ⟨h1, h2, h3, A' ++ [d], rfl, ?_⟩
    have e3 : t + (mvB e (bs.drop (t - s)) f).2.length = s + bs.length := by rw [mvB_length, List.length_drop]; omega
    rw [e3] at r
    exact r
/-- the maker takes a deed more of the other seat -/
theorem Chain.longer {f : Bool} {ls : List (Nat × Deed)} {s : Nat} {U : List Nat} {bs A : List Deed} (h : Chain f ls s U bs A) (b : Deed) :
    Chain f ls s U (bs ++ [b]) (mvB b A (!f)).2 := by
  induction ls generalizing s U bs A b with
  | nil => simp only [Chain] at h ⊢; subst h; rfl
  | cons x ls ih =>
    obtain ⟨t, d⟩ := x
    obtain ⟨h1, h2, h3, A', rfl, h4⟩ := h
    have ht : t - s ≤ bs.length := by omega
    have e1 : (bs ++ [b]).take (t - s) = bs.take (t - s) := List.take_append_of_le_length ht
    have e2 : (bs ++ [b]).drop (t - s) = bs.drop (t - s) ++ [b] := List.drop_append_of_le_length ht
    refine ⟨h1, by simp; omega, by rw [e1]; exact h3, (mvB (mv b (mvB d (bs.drop (t - s)) f).1 (!f)) A' (!f)).2, ?_, ?_⟩
    · rw [e2, mvB_append1]
      simp only [mvB, Bool.not_not]
    · rw [e1, e2, mvB_append2]
      exact ih h4 _

/-! ### the state -/
structure SeatM where
  text : List Nat
  made : Nat
  taken : Nat
  heard : Nat
  waiting : List Deed
structure LetterM where
  n : Nat
  t : Nat
  d : Deed
def LetterM.td (x : LetterM) : Nat × Deed := (x.t, x.d)

def makeM (a : SeatM) (d : Deed) : SeatM := { a with text := app d a.text, made := a.made + 1, waiting := a.waiting ++ [d] }
/-- the deed done, the pending ones behind it; f: the letter is seat 0's -/
def pastM (f : Bool) (b : SeatM) (x : LetterM) : Deed × List Deed := mvB x.d (b.waiting.drop (x.t - b.heard)) f
def takeM (f : Bool) (b : SeatM) (x : LetterM) : SeatM :=
  { text := app (pastM f b x).1 b.text, made := b.made, taken := b.taken + 1, heard := x.t, waiting := (pastM f b x).2 }

/-- the letters of a to b (f: a is seat 0); L the line behind what each has taken of the other -/
structure Half (f : Bool) (a b : SeatM) (road : List LetterM) (L : List Nat) : Prop where
  len : a.waiting.length + a.heard = a.made
  le1 : a.heard ≤ b.taken
  le2 : b.taken ≤ a.made
  nums : road.map (·.n) = List.range' b.taken (a.made - b.taken)
  low : ∃ U, rowOk b.waiting U ∧ rowApp b.waiting U = b.text ∧ rowApp (b.waiting.take (a.taken - b.heard)) U = L ∧
    Chain f (road.map LetterM.td) b.heard U (b.waiting.take (a.taken - b.heard)) (a.waiting.drop (b.taken - a.heard))
/-- the state of two seats and the letters between them -/
def Sync (f : Bool) (a b : SeatM) (ab ba : List LetterM) : Prop := ∃ L, Half f a b ab L ∧ Half (!f) b a ba L
theorem Sync.symm {f : Bool} {a b : SeatM} {ab ba : List LetterM} (h : Sync f a b ab ba) : Sync (!f) b a ba ab := by
  obtain ⟨L, h1, h2⟩ := h
  exact ⟨L, h2, by rw [Bool.not_not]; exact h1⟩

theorem sync_start (f : Bool) (line : List Nat) : Sync f ⟨line, 0, 0, 0, []⟩ ⟨line, 0, 0, 0, []⟩ [] [] :=
  ⟨line, ⟨rfl, Nat.le_refl _, Nat.le_refl _, rfl, line, trivial, rfl, rfl, rfl⟩, ⟨rfl, Nat.le_refl _, Nat.le_refl _, rfl, line, trivial, rfl, rfl, rfl⟩⟩

/-- the own line of a seat, from L -/
theorem Half.own {f g : Bool} {a b : SeatM} {ab ba : List LetterM} {L : List Nat} (h : Half f a b ab L) (k : Half g b a ba L) : rowOk (a.waiting.drop (b.taken - a.heard)) L ∧ rowApp (a.waiting.drop (b.taken - a.heard)) L = a.text := by
  obtain ⟨U, u1, u2, u3, u4⟩ := k.low
  have e : a.waiting = a.waiting.take (b.taken - a.heard) ++ a.waiting.drop (b.taken - a.heard) := (List.take_append_drop _ _).symm
  rw [e, rowOk_append, u3] at u1
  refine ⟨u1.2, ?_⟩
  rw [e, rowApp_append, u3] at u2
  exact u2

theorem sync_rest {f : Bool} {a b : SeatM} (h : Sync f a b [] []) : a.text = b.text := by
  obtain ⟨L, h1, h2⟩ := h
  obtain ⟨_, a2⟩ := h1.own h2
  obtain ⟨_, b2⟩ := h2.own h1
  obtain ⟨_, _, _, _, c1⟩ := h1.low
  obtain ⟨_, _, _, _, c2⟩ := h2.low
  simp only [List.map_nil, Chain] at c1 c2
  rw [c1] at a2
  rw [c2] at b2
  exact a2.symm.trans b2

theorem sync_make {f : Bool} {a b : SeatM} {ab ba : List LetterM} (h : Sync f a b ab ba) {d : Deed} (hd : ok d a.text) :
    Sync f (makeM a d) b (ab ++ [⟨a.made, a.taken, d⟩]) ba := by
  obtain ⟨L, h1, h2⟩ := h
  obtain ⟨o1, o2⟩ := h1.own h2
  have la := h1.len
  have lb := h2.len
  have a1 := h1.le1
  have a2 := h1.le2
  have b1 := h2.le1
  have b2 := h2.le2
  refine ⟨L, ⟨?_, a1, ?_, ?_, ?_⟩, ⟨lb, b1, b2, h2.nums, ?_⟩⟩
  · simp only [makeM, List.length_append, List.length_singleton]; omega
  · simp only [makeM]; omega
  · have e : a.made + 1 - b.taken = (a.made - b.taken) + 1 := by omega
    simp only [makeM, List.map_append, h1.nums, List.map_cons, List.map_nil, e]
    rw [List.range'_concat]
    congr 2
    omega
  · obtain ⟨U, u1, u2, u3, u4⟩ := h1.low
    refine ⟨U, u1, u2, u3, ?_⟩
    have ub : rowOk (b.waiting.take (a.taken - b.heard)) U := by
      have e : b.waiting = b.waiting.take (a.taken - b.heard) ++ b.waiting.drop (a.taken - b.heard) := (List.take_append_drop _ _).symm
      rw [e, rowOk_append] at u1
      exact u1.1
    have hd' : ok d (rowApp (a.waiting.drop (b.taken - a.heard)) (rowApp (b.waiting.take (a.taken - b.heard)) U)) := by
      rw [u3, o2]; exact hd
    have r := u4.made ub hd'
    have e1 : b.heard + (b.waiting.take (a.taken - b.heard)).length = a.taken := by
      rw [List.length_take]; omega
    rw [e1] at r
    have e2 : (makeM a d).waiting.drop (b.taken - (makeM a d).heard) = a.waiting.drop (b.taken - a.heard) ++ [d] := by
      simp only [makeM]
      exact List.drop_append_of_le_length (by omega)
    rw [e2]
    simp only [makeM, List.map_append, List.map_cons, List.map_nil]
    exact r
  · obtain ⟨U, u1, u2, u3, u4⟩ := h2.low
    have e2 : (makeM a d).waiting.take (b.taken - (makeM a d).heard) = a.waiting.take (b.taken - a.heard) := by
      simp only [makeM]
      exact List.take_append_of_le_length (by omega)
    refine ⟨U, ?_, ?_, ?_, ?_⟩
    · show rowOk (a.waiting ++ [d]) U
      rw [rowOk_append, u2]
      exact ⟨u1, hd, trivial⟩
    · show rowApp (a.waiting ++ [d]) U = app d a.text
      rw [rowApp_append, u2]
      rfl
    · rw [e2]; exact u3
    · rw [e2]; exact u4

theorem sync_take {f : Bool} {a b : SeatM} {x : LetterM} {ab ba : List LetterM} (h : Sync f a b (x :: ab) ba) :
    x.n = b.taken ∧ b.heard ≤ x.t ∧ x.t ≤ b.made ∧ ok (pastM f b x).1 b.text ∧ Sync f a (takeM f b x) ab ba := by
  obtain ⟨L, h1, h2⟩ := h
  obtain ⟨o1, o2⟩ := h2.own h1
  have la := h1.len
  have lb := h2.len
  have a1 := h1.le1
  have a2 := h1.le2
  have b1 := h2.le1
  have b2 := h2.le2
  obtain ⟨U, u1, u2, u3, u4⟩ := h1.low
  have hn := h1.nums
  have hlt : b.taken < a.made := by
    rcases Nat.lt_or_ge b.taken a.made with z | z
    · exact z
    · have e : a.made - b.taken = 0 := by omega
      rw [e] at hn
      simp at hn
  obtain ⟨m, em⟩ : ∃ m, a.made - b.taken = m + 1 := ⟨a.made - b.taken - 1, by omega⟩
  rw [em, List.map_cons, List.range'_succ, List.cons.injEq] at hn
  obtain ⟨n1, n2⟩ := hn
  obtain ⟨c1, c2, c3, A', c4, c5⟩ := u4
  have lt : (b.waiting.take (a.taken - b.heard)).length = a.taken - b.heard := by rw [List.length_take]; omega
  rw [lt] at c2
  have c1' : b.heard ≤ x.t := c1
  have c2' : x.t ≤ a.taken := by have : x.t ≤ b.heard + (a.taken - b.heard) := c2; omega
  -- the pieces of b's waiting deeds
  have e1 : b.waiting = b.waiting.take (x.t - b.heard) ++ b.waiting.drop (x.t - b.heard) := (List.take_append_drop _ _).symm
  have t1 : (b.waiting.take (a.taken - b.heard)).take (x.t - b.heard) = b.waiting.take (x.t - b.heard) := by
    rw [List.take_take]; congr 1; omega
  have e2 : b.waiting.drop (x.t - b.heard) = (b.waiting.take (a.taken - b.heard)).drop (x.t - b.heard) ++ b.waiting.drop (a.taken - b.heard) := by
    conv => lhs; rw [← List.take_append_drop (a.taken - b.heard) b.waiting]
    exact List.drop_append_of_le_length (by rw [lt]; omega)
  have c3' : ok x.d (rowApp (b.waiting.take (x.t - b.heard)) U) := by rw [← t1]; exact c3
  have w1 := u1
  rw [e1, rowOk_append] at w1
  obtain ⟨p1, p2, p3⟩ := mvB_ok x.d (b.waiting.drop (x.t - b.heard)) f _ c3' w1.2
  have e3 : rowApp (b.waiting.drop (x.t - b.heard)) (rowApp (b.waiting.take (x.t - b.heard)) U) = b.text := by
    rw [← rowApp_append, ← e1, u2]
  rw [e3] at p1 p3
  have c4' : a.waiting.drop (b.taken - a.heard) = (mvB x.d ((b.waiting.take (a.taken - b.heard)).drop (x.t - b.heard)) f).1 :: A' := c4
  refine ⟨n1, c1', by omega, p1, ?_⟩
  -- the middle part
  have c5' : Chain f (ab.map LetterM.td) x.t (app x.d (rowApp (b.waiting.take (x.t - b.heard)) U)) (mvB x.d ((b.waiting.take (a.taken - b.heard)).drop (x.t - b.heard)) f).2 A' := by
    rw [← t1]; exact c5
  have w3 := w1.2
  rw [e2, rowOk_append] at w3
  obtain ⟨q1, q2, q3⟩ := mvB_ok x.d ((b.waiting.take (a.taken - b.heard)).drop (x.t - b.heard)) f _ c3' w3.1
  have e4 : rowApp ((b.waiting.take (a.taken - b.heard)).drop (x.t - b.heard)) (rowApp (b.waiting.take (x.t - b.heard)) U) = L := by
    rw [← u3, ← t1, ← rowApp_append, List.take_append_drop]
  rw [e4] at q1 q3
  have lw : ((b.waiting.take (a.taken - b.heard)).drop (x.t - b.heard)).length = a.taken - x.t := by rw [List.length_drop, lt]; omega
  have lw2 : (mvB x.d ((b.waiting.take (a.taken - b.heard)).drop (x.t - b.heard)) f).2.length = a.taken - x.t := by rw [mvB_length, lw]
  have e5 : (takeM f b x).waiting = (mvB x.d ((b.waiting.take (a.taken - b.heard)).drop (x.t - b.heard)) f).2 ++
      (mvB (mvB x.d ((b.waiting.take (a.taken - b.heard)).drop (x.t - b.heard)) f).1 (b.waiting.drop (a.taken - b.heard)) f).2 := by
    show (mvB x.d (b.waiting.drop (x.t - b.heard)) f).2 = _
    rw [e2, mvB_append2]
  have e6 : (takeM f b x).waiting.take (a.taken - (takeM f b x).heard) = (mvB x.d ((b.waiting.take (a.taken - b.heard)).drop (x.t - b.heard)) f).2 := by
    rw [e5]
    show List.take (a.taken - x.t) _ = _
    rw [← lw2, List.take_left]
  have e7 : (takeM f b x).waiting.drop (a.taken - (takeM f b x).heard) = (mvB (mvB x.d ((b.waiting.take (a.taken - b.heard)).drop (x.t - b.heard)) f).1 (b.waiting.drop (a.taken - b.heard)) f).2 := by
    rw [e5]
    show List.drop (a.taken - x.t) _ = _
    rw [← lw2, List.drop_left]
  have e8 : a.waiting.drop (b.taken + 1 - a.heard) = A' := by
    have e : b.taken + 1 - a.heard = (b.taken - a.heard) + 1 := by omega
    rw [e, ← List.drop_drop, c4']
    rfl
  have e9 : a.waiting.take (b.taken + 1 - a.heard) = a.waiting.take (b.taken - a.heard) ++ [(mvB x.d ((b.waiting.take (a.taken - b.heard)).drop (x.t - b.heard)) f).1] := by
    have e : b.taken + 1 - a.heard = (b.taken - a.heard) + 1 := by omega
    have g : a.waiting[b.taken - a.heard]? = some (mvB x.d ((b.waiting.take (a.taken - b.heard)).drop (x.t - b.heard)) f).1 := by
      have : (a.waiting.drop (b.taken - a.heard))[0]? = some (mvB x.d ((b.waiting.take (a.taken - b.heard)).drop (x.t - b.heard)) f).1 := by rw [c4']; rfl
      rw [List.getElem?_drop] at this
      simpa using this
    rw [e, List.take_add_one, g]
    rfl
  refine ⟨app (mvB x.d ((b.waiting.take (a.taken - b.heard)).drop (x.t - b.heard)) f).1 L, ⟨la, ?_, ?_, ?_, ?_⟩, ⟨?_, ?_, b2, h2.nums, ?_⟩⟩
  · show a.heard ≤ b.taken + 1; omega
  · show b.taken + 1 ≤ a.made; omega
  · show ab.map (·.n) = List.range' (b.taken + 1) (a.made - (b.taken + 1))
    rw [n2]
    congr 1
    omega
  · refine ⟨app x.d (rowApp (b.waiting.take (x.t - b.heard)) U), p2, p3, ?_, ?_⟩
    · rw [e6]; exact q3
    · rw [e6]
      show Chain f _ x.t _ _ (a.waiting.drop (b.taken + 1 - a.heard))
      rw [e8]
      exact c5'
  · show (mvB x.d (b.waiting.drop (x.t - b.heard)) f).2.length + x.t = b.made
    rw [mvB_length, List.length_drop]
    omega
  · show x.t ≤ a.taken
    exact c2'
  · obtain ⟨V, v1, v2, v3, v4⟩ := h2.low
    refine ⟨V, v1, v2, ?_, ?_⟩
    · show rowApp (a.waiting.take (b.taken + 1 - a.heard)) V = _
      rw [e9, rowApp_append, v3]
      rfl
    · show Chain (!f) (ba.map LetterM.td) a.heard V (a.waiting.take (b.taken + 1 - a.heard)) _
      rw [e9, e7]
      have r := v4.longer (mvB x.d ((b.waiting.take (a.taken - b.heard)).drop (x.t - b.heard)) f).1
      rw [Bool.not_not] at r
      exact r
end Far
end

section
set_option linter.all false
set_option autoImplicit false
/-! The plain law, part 2: choices, a yard's moves, runs, and what the line at rest is. -/
namespace Far

inductive Ch where
  | put (n c : Nat)
  | cut (n : Nat)
  deriving DecidableEq
def Ch.isPut : Ch → Bool
  | .put _ _ => true
  | .cut _ => false
def Ch.signs : Ch → List Nat
  | .put _ c => [c]
  | .cut _ => []
def Ch.deed : Ch → List Nat → Deed
  | .put n c, l => .put (n % (l.length + 1)) c
  | .cut n, l => if 0 < l.length then .cut (n % l.length) else .non
theorem Ch.deed_ok (ch : Ch) (l : List Nat) : ok (ch.deed l) l := by
  cases ch with
  | put n c => exact Nat.le_of_lt_succ (Nat.mod_lt _ (Nat.succ_pos _))
  | cut n =>
    simp only [Ch.deed]
    split
    · rename_i h
      exact Nat.mod_lt _ h
    · trivial
/-- what a deed may be that came of a choice -/
def KindOf : Ch → Deed → Prop
  | .put _ c, .put _ e => e = c
  | .cut _, .cut _ => True
  | .cut _, .non => True
  | _, _ => False
theorem Ch.deed_kind (ch : Ch) (l : List Nat) : KindOf ch (ch.deed l) := by
  cases ch with
  | put n c => rfl
  | cut n =>
    simp only [Ch.deed]
    split <;> trivial
theorem mv_kind {ch : Ch} {d : Deed} (h : KindOf ch d) (o : Deed) (f : Bool) : KindOf ch (mv d o f) := by
  cases ch with
  | put n c =>
    cases d with
    | put p e =>
      cases o <;> simp only [mv] <;> (try split) <;> exact h
    | cut p => exact h.elim
    | non => exact h.elim
  | cut n =>
    cases d with
    | put p e => exact h.elim
    | cut p =>
      cases o with
      | put q e => simp only [mv]; split <;> trivial
      | cut q => simp only [mv]; split; trivial; split <;> trivial
      | non => trivial
    | non => cases o <;> trivial
theorem mvB_kind {ch : Ch} {d : Deed} (h : KindOf ch d) (r : List Deed) (f : Bool) : KindOf ch (mvB d r f).1 := by
  induction r generalizing d with
  | nil => exact h
  | cons o r ih => exact ih (mv_kind h o f)

/-! ### what was done on a line -/
inductive Done (line : List Nat) : List Ch → List Nat → Prop
  | nil : Done line [] line
  | snoc {cs : List Ch} {T : List Nat} {ch : Ch} {d : Deed} : Done line cs T → KindOf ch d → ok d T → Done line (cs ++ [ch]) (app d T)
def signsOf (cs : List Ch) : List Nat := cs.flatMap Ch.signs
def nputs (cs : List Ch) : Nat := (cs.filter Ch.isPut).length
theorem signsOf_append (a b : List Ch) : signsOf (a ++ b) = signsOf a ++ signsOf b := by simp [signsOf]
theorem nputs_append (a b : List Ch) : nputs (a ++ b) = nputs a + nputs b := by simp [nputs]
theorem nputs_le (a : List Ch) : nputs a ≤ a.length := List.length_filter_le _ _
theorem sublist_insertIdx (l : List Nat) (i x : Nat) : l.Sublist (l.insertIdx i x) := by
  induction l generalizing i with
  | nil => exact List.nil_sublist _
  | cons a l ih =>
    cases i with
    | zero => exact List.sublist_cons_self _ _
    | succ i => exact (ih i).cons_cons a
theorem Done.puts {line T : List Nat} {cs : List Ch} (h : Done line cs T) (hp : ∀ ch ∈ cs, ch.isPut = true) : T.Perm (line ++ signsOf cs) ∧ line.Sublist T := by
  induction h with
  | nil => exact ⟨by simp [signsOf], List.Sublist.refl _⟩
  | @snoc cs T ch d h1 h2 h3 ih =>
    obtain ⟨i1, i2⟩ := ih fun c hc => hp c (List.mem_append_left _ hc)
    have hch := hp ch (by simp)
    cases ch with
    | cut n => simp [Ch.isPut] at hch
    | put n c =>
      cases d with
      | cut p => exact h2.elim
      | non => exact h2.elim
      | put p e =>
        have e1 : e = c := h2
        subst e1
        refine ⟨?_, i2.trans (sublist_insertIdx _ _ _)⟩
        refine (List.perm_insertIdx _ _ h3).trans ?_
        rw [signsOf_append, ← List.append_assoc]
        refine (i1.cons e).trans ?_
        show (e :: (line ++ signsOf cs)).Perm (line ++ signsOf cs ++ [e])
        exact (List.perm_append_singleton e _).symm
theorem Done.cuts {line T : List Nat} {cs : List Ch} (h : Done line cs T) (hp : ∀ ch ∈ cs, ch.isPut = false) : T.Sublist line := by
  induction h with
  | nil => exact List.Sublist.refl _
  | @snoc cs T ch d h1 h2 h3 ih =>
    have i := ih fun c hc => hp c (List.mem_append_left _ hc)
    have hch := hp ch (by simp)
    cases ch with
    | put n c => simp [Ch.isPut] at hch
    | cut n =>
      cases d with
      | put p e => exact h2.elim
      | cut p => exact (List.eraseIdx_sublist _ _).trans i
      | non => exact i
theorem Done.len {line T : List Nat} {cs : List Ch} (h : Done line cs T) : T.length ≤ line.length + nputs cs ∧ line.length + 2 * nputs cs ≤ T.length + cs.length := by
  induction h with
  | nil => simp [nputs]
  | @snoc cs T ch d h1 h2 h3 ih =>
    obtain ⟨i1, i2⟩ := ih
    cases ch with
    | put n c =>
      cases d with
      | cut p => exact h2.elim
      | non => exact h2.elim
      | put p e =>
        have h3' : p ≤ T.length := h3
        have l1 : (app (.put p e) T).length = T.length + 1 := by simp [app, List.length_insertIdx, h3']
        have l2 : nputs (cs ++ [.put n c]) = nputs cs + 1 := by rw [nputs_append]; rfl
        rw [l1, l2, List.length_append, List.length_singleton]
        omega
    | cut n =>
      have l2 : nputs (cs ++ [.cut n]) = nputs cs := by rw [nputs_append]; rfl
      rw [l2, List.length_append, List.length_singleton]
      cases d with
      | put p e => exact h2.elim
      | cut p =>
        have h3' : p < T.length := h3
        have l1 : (app (.cut p) T).length = T.length - 1 := by simp [app, List.length_eraseIdx, h3']
        rw [l1]
        omega
      | non =>
        show T.length ≤ _ ∧ _ ≤ T.length + _
        omega
theorem app_len_cut {ch : Ch} {d : Deed} {T : List Nat} (h : KindOf ch d) (hc : ch.isPut = false) : (app d T).length ≤ T.length := by
  cases ch with
  | put n c => simp [Ch.isPut] at hc
  | cut n =>
    cases d with
    | put p e => exact h.elim
    | cut p => simp only [app, List.length_eraseIdx]; split <;> omega
    | non => exact Nat.le_refl _

/-! ### a yard -/
structure YardM where
  s : Bool → SeatM
  r : Bool → List LetterM
def updB {α : Type} (g : Bool → α) (f : Bool) (x : α) : Bool → α := fun b => if b = f then x else g b
theorem updB_same {α : Type} (g : Bool → α) (f : Bool) (x : α) : updB g f x f = x := by simp [updB]
theorem updB_not {α : Type} (g : Bool → α) (f : Bool) (x : α) : updB g f x (!f) = g (!f) := by cases f <;> simp [updB]
theorem updB_not' {α : Type} (g : Bool → α) (f : Bool) (x : α) : updB g (!f) x f = g f := by cases f <;> simp [updB]
def yard0 (line : List Nat) : YardM := ⟨fun _ => ⟨line, 0, 0, 0, []⟩, fun _ => []⟩
/-- f: seat 0 -/
def YardM.make (Y : YardM) (f : Bool) (d : Deed) : YardM := ⟨updB Y.s f (makeM (Y.s f) d), updB Y.r (!f) (Y.r (!f) ++ [⟨(Y.s f).made, (Y.s f).taken, d⟩])⟩
def YardM.takeOf (Y : YardM) (f : Bool) (x : LetterM) (rest : List LetterM) : YardM := ⟨updB Y.s f (takeM (!f) (Y.s f) x), updB Y.r f rest⟩
def YardM.take (Y : YardM) (f : Bool) : YardM := match Y.r f with
  | [] => Y
  | x :: rest => Y.takeOf f x rest
def SyncY (Y : YardM) : Prop := Sync true (Y.s true) (Y.s false) (Y.r false) (Y.r true)
theorem SyncY.at {Y : YardM} (h : SyncY Y) (f : Bool) : Sync f (Y.s f) (Y.s (!f)) (Y.r (!f)) (Y.r f) := by
  cases f with
  | true => exact h
  | false => exact Sync.symm h
theorem SyncY.of {Y : YardM} (f : Bool) (h : Sync f (Y.s f) (Y.s (!f)) (Y.r (!f)) (Y.r f)) : SyncY Y := by
  cases f with
  | true => exact h
  | false => exact Sync.symm h
theorem syncY0 (line : List Nat) : SyncY (yard0 line) := sync_start _ _
theorem SyncY.make {Y : YardM} (h : SyncY Y) (f : Bool) {d : Deed} (hd : ok d (Y.s f).text) : SyncY (Y.make f d) := by
  refine SyncY.of f ?_
  simp only [YardM.make, updB_same, updB_not, updB_not']
  exact sync_make (h.at f) hd
theorem SyncY.take {Y : YardM} (h : SyncY Y) (f : Bool) {x : LetterM} {rest : List LetterM} (e : Y.r f = x :: rest) :
    x.n = (Y.s f).taken ∧ (Y.s f).heard ≤ x.t ∧ x.t ≤ (Y.s f).made ∧ ok (pastM (!f) (Y.s f) x).1 (Y.s f).text ∧ SyncY (Y.takeOf f x rest) := by
  have q := h.at (!f)
  rw [Bool.not_not, e] at q
  obtain ⟨h1, h2, h3, h4, h5⟩ := sync_take q
  refine ⟨h1, h2, h3, h4, SyncY.of (!f) ?_⟩
  simp only [YardM.takeOf, updB_same, updB_not, updB_not', Bool.not_not]
  exact h5
theorem SyncY.waiting {Y : YardM} (h : SyncY Y) (f : Bool) : (Y.s f).waiting.length + (Y.s f).heard = (Y.s f).made := by
  obtain ⟨L, h1, _⟩ := h.at f
  exact h1.len
theorem SyncY.road {Y : YardM} (h : SyncY Y) (f : Bool) : (Y.r f).length = (Y.s (!f)).made - (Y.s f).taken ∧ (Y.s f).taken ≤ (Y.s (!f)).made := by
  obtain ⟨L, _, h2⟩ := h.at f
  have e := congrArg List.length h2.nums
  rw [List.length_map, List.length_range'] at e
  exact ⟨e, h2.le2⟩

/-! ### a run -/
def typed (line : List Nat) : List Ch → List Nat
  | [] => line
  | ch :: r => typed (app (ch.deed line) line) r
theorem typed_snoc (line : List Nat) (cs : List Ch) (ch : Ch) : typed line (cs ++ [ch]) = app (ch.deed (typed line cs)) (typed line cs) := by
  induction cs generalizing line with
  | nil => rfl
  | cons c r ih => exact ih _

structure RunM where
  Y : YardM
  left : Bool → List Ch
def run0 (line : List Nat) (P : Bool → List Ch) : RunM := ⟨yard0 line, P⟩
/-- a step: the seat (true: seat 0), whether it makes -/
abbrev Stp := Bool × Bool
def RunM.step (S : RunM) : Stp → RunM
  | (f, true) => match S.left f with
    | [] => S
    | ch :: rest => ⟨S.Y.make f (ch.deed (S.Y.s f).text), updB S.left f rest⟩
  | (f, false) => ⟨S.Y.take f, S.left⟩
def RunM.steps (S : RunM) : List Stp → RunM
  | [] => S
  | x :: r => (S.step x).steps r

structure RunOk (line : List Nat) (P : Bool → List Ch) (S : RunM) : Prop where
  sync : SyncY S.Y
  left : ∀ f, S.left f = (P f).drop (S.Y.s f).made
  mle : ∀ f, (S.Y.s f).made ≤ (P f).length
  kinds : ∀ f (i : Nat) (x : LetterM), (S.Y.r f)[i]? = some x → ∃ ch, (P (!f))[(S.Y.s f).taken + i]? = some ch ∧ KindOf ch x.d
  done : ∀ f, ∃ cs, cs.Perm ((P f).take (S.Y.s f).made ++ (P (!f)).take (S.Y.s f).taken) ∧ Done line cs (S.Y.s f).text
  cuts : (∀ f, ∀ ch ∈ P f, ch.isPut = false) → ∀ f, (S.Y.s f).text.length + min line.length (S.Y.s f).made ≤ line.length
  alone : ∀ f, P (!f) = [] → (S.Y.s f).text = typed line ((P f).take (S.Y.s f).made)

theorem runOk0 (line : List Nat) (P : Bool → List Ch) : RunOk line P (run0 line P) where
  sync := syncY0 line
  left := fun f => rfl
  mle := fun f => Nat.zero_le _
  kinds := fun f i x e => by simp [run0, yard0] at e
  done := fun f => ⟨[], by simp [run0, yard0], Done.nil⟩
  cuts := fun _ f => by simp [run0, yard0]
  alone := fun f _ => rfl

theorem RunOk.make {line : List Nat} {P : Bool → List Ch} {S : RunM} (h : RunOk line P S) {f : Bool} {ch : Ch} {rest : List Ch} (e : S.left f = ch :: rest) : RunOk line P (S.step (f, true)) := by
  have el := h.left f
  rw [e] at el
  have hlt : (S.Y.s f).made < (P f).length := by
    have := congrArg List.length el
    rw [List.length_cons, List.length_drop] at this
    omega
  have ge : (P f)[(S.Y.s f).made]? = some ch := by
    have : ((P f).drop (S.Y.s f).made)[0]? = some ch := by rw [← el]; rfl
    rw [List.getElem?_drop] at this
    simpa using this
  have er : rest = (P f).drop ((S.Y.s f).made + 1) := by
    rw [← List.drop_drop, ← el]; rfl
  have st : S.step (f, true) = ⟨S.Y.make f (ch.deed (S.Y.s f).text), updB S.left f rest⟩ := by
    simp only [RunM.step, e]
  rw [st]
  have hd := ch.deed_ok (S.Y.s f).text
  have tk : (P f).take ((S.Y.s f).made + 1) = (P f).take (S.Y.s f).made ++ [ch] := by
    rw [List.take_add_one, ge]; rfl
  refine ⟨h.sync.make f hd, fun g => ?_, fun g => ?_, fun g i x q => ?_, fun g => ?_, fun hc g => ?_, fun g hp => ?_⟩
  · by_cases hg : g = f
    · subst hg
      simp only [YardM.make, updB_same]
      exact er
    · simp only [YardM.make, updB, if_neg hg]
      exact h.left g
  · by_cases hg : g = f
    · subst hg
      simp only [YardM.make, updB_same, makeM]
      omega
    · simp only [YardM.make, updB, if_neg hg]
      exact h.mle g
  · by_cases hg : g = f
    · subst hg
      simp only [YardM.make, updB_not', updB_same, makeM] at q ⊢
      exact h.kinds g i x q
    · have eg : g = !f := by cases g <;> cases f <;> simp_all
      subst eg
      simp only [YardM.make, updB_same, updB_not, Bool.not_not] at q ⊢
      by_cases hi : i < (S.Y.r (!f)).length
      · rw [List.getElem?_append_left hi] at q
        have := h.kinds (!f) i x q
        rwa [Bool.not_not] at this
      · rw [List.getElem?_append_right (by omega)] at q
        have hi0 : i - (S.Y.r (!f)).length = 0 := by
          have := (List.getElem?_eq_some_iff.mp q).1
          simp at this
          omega
        rw [hi0] at q
        simp only [List.getElem?_cons_zero, Option.some.injEq] at q
        subst q
        refine ⟨ch, ?_, ch.deed_kind _⟩
        obtain ⟨r1, r2⟩ := h.sync.road (!f)
        rw [Bool.not_not] at r1 r2
        have : (S.Y.s (!f)).taken + i = (S.Y.s f).made := by omega
        rw [this]
        exact ge
  · by_cases hg : g = f
    · subst hg
      obtain ⟨cs, p, dn⟩ := h.done g
      simp only [YardM.make, updB_same, makeM]
      refine ⟨cs ++ [ch], ?_, dn.snoc (ch.deed_kind _) hd⟩
      rw [tk]
      refine (p.append_right [ch]).trans ?_
      rw [List.append_assoc, List.append_assoc]
      exact List.Perm.append_left _ List.perm_append_comm
    · simp only [YardM.make, updB, if_neg hg]
      exact h.done g
  · by_cases hg : g = f
    · subst hg
      have hi := h.cuts hc g
      simp only [YardM.make, updB_same, makeM]
      have hch := hc g ch (List.mem_of_getElem? ge)
      cases ch with
      | put n c => simp [Ch.isPut] at hch
      | cut n =>
        simp only [Ch.deed]
        split
        · rename_i hpos
          have l1 : (app (.cut (n % (S.Y.s g).text.length)) (S.Y.s g).text).length = (S.Y.s g).text.length - 1 := by
            simp [app, List.length_eraseIdx, Nat.mod_lt _ hpos]
          rw [l1]
          omega
        · rename_i hz
          have : (S.Y.s g).text.length = 0 := by omega
          show (S.Y.s g).text.length + _ ≤ _
          omega
    · simp only [YardM.make, updB, if_neg hg]
      exact h.cuts hc g
  · by_cases hg : g = f
    · subst hg
      have hi := h.alone g hp
      simp only [YardM.make, updB_same, makeM]
      rw [tk, typed_snoc, ← hi]
    · simp only [YardM.make, updB, if_neg hg]
      exact h.alone g hp

theorem RunOk.take {line : List Nat} {P : Bool → List Ch} {S : RunM} (h : RunOk line P S) {f : Bool} {x : LetterM} {rest : List LetterM} (e : S.Y.r f = x :: rest) : RunOk line P (S.step (f, false)) := by
  have st : S.step (f, false) = ⟨S.Y.takeOf f x rest, S.left⟩ := by
    simp only [RunM.step, YardM.take, e]
  rw [st]
  obtain ⟨h1, h2, h3, h4, h5⟩ := h.sync.take f e
  obtain ⟨ch, c1, c2⟩ := h.kinds f 0 x (by rw [e]; rfl)
  rw [Nat.add_zero] at c1
  have ck : KindOf ch (pastM (!f) (S.Y.s f) x).1 := mvB_kind c2 _ _
  have tk : (P (!f)).take ((S.Y.s f).taken + 1) = (P (!f)).take (S.Y.s f).taken ++ [ch] := by
    rw [List.take_add_one, c1]; rfl
  refine ⟨h5, fun g => ?_, fun g => ?_, fun g i y q => ?_, fun g => ?_, fun hc g => ?_, fun g hp => ?_⟩
  · by_cases hg : g = f
    · subst hg
      simp only [YardM.takeOf, updB_same, takeM]
      exact h.left g
    · simp only [YardM.takeOf, updB, if_neg hg]
      exact h.left g
  · by_cases hg : g = f
    · subst hg
      simp only [YardM.takeOf, updB_same, takeM]
      exact h.mle g
    · simp only [YardM.takeOf, updB, if_neg hg]
      exact h.mle g
  · by_cases hg : g = f
    · subst hg
      simp only [YardM.takeOf, updB_same, takeM] at q ⊢
      have := h.kinds g (i + 1) y (by rw [e]; exact q)
      have e2 : (S.Y.s g).taken + (i + 1) = (S.Y.s g).taken + 1 + i := by omega
      rw [e2] at this
      exact this
    · simp only [YardM.takeOf, updB, if_neg hg] at q ⊢
      exact h.kinds g i y q
  · by_cases hg : g = f
    · subst hg
      obtain ⟨cs, p, dn⟩ := h.done g
      simp only [YardM.takeOf, updB_same, takeM]
      refine ⟨cs ++ [ch], ?_, dn.snoc ck h4⟩
      rw [tk, ← List.append_assoc]
      exact p.append_right [ch]
    · simp only [YardM.takeOf, updB, if_neg hg]
      exact h.done g
  · by_cases hg : g = f
    · subst hg
      have hi := h.cuts hc g
      have := app_len_cut (T := (S.Y.s g).text) ck (hc (!g) ch (List.mem_of_getElem? c1))
      simp only [YardM.takeOf, updB_same, takeM]
      omega
    · simp only [YardM.takeOf, updB, if_neg hg]
      exact h.cuts hc g
  · by_cases hg : g = f
    · subst hg
      rw [hp] at c1
      simp at c1
    · simp only [YardM.takeOf, updB, if_neg hg]
      exact h.alone g hp

/-! ### steps and keys -/
structure Key where
  came : Bool → Nat
  heard : Bool → List Nat
def key0 : Key := ⟨fun _ => 0, fun _ => []⟩
def Key.next (k : Key) : Stp → Key
  | (f, true) => ⟨k.came, updB k.heard f (k.heard f ++ [k.came f])⟩
  | (f, false) => ⟨updB k.came f (k.came f + 1), k.heard⟩
def Key.may (n : Bool → Nat) (k : Key) : Stp → Bool
  | (f, true) => decide ((k.heard f).length < n f)
  | (f, false) => decide (k.came f < (k.heard (!f)).length)
def Key.after (k : Key) : List Stp → Key
  | [] => k
  | x :: r => (k.next x).after r
def Way (n : Bool → Nat) : Key → List Stp → Prop
  | _, [] => True
  | k, x :: r => k.may n x = true ∧ Way n (k.next x) r
theorem Key.after_snoc (k : Key) (st : List Stp) (x : Stp) : k.after (st ++ [x]) = (k.after st).next x := by
  induction st generalizing k with
  | nil => rfl
  | cons y r ih => exact ih _
theorem way_snoc (n : Bool → Nat) (k : Key) (st : List Stp) (x : Stp) : Way n k (st ++ [x]) ↔ Way n k st ∧ (k.after st).may n x = true := by
  induction st generalizing k with
  | nil => simp [Way, Key.after]
  | cons y r ih => simp only [List.cons_append, Way, Key.after, ih, and_assoc]
theorem steps_snoc (S : RunM) (st : List Stp) (x : Stp) : S.steps (st ++ [x]) = (S.steps st).step x := by
  induction st generalizing S with
  | nil => rfl
  | cons y r ih => exact ih _
/-- a state and its key -/
structure KeyOf (S : RunM) (k : Key) : Prop where
  made : ∀ f, (S.Y.s f).made = (k.heard f).length
  taken : ∀ f, (S.Y.s f).taken = k.came f
theorem keyOf0 (line : List Nat) (P : Bool → List Ch) : KeyOf (run0 line P) key0 := ⟨fun _ => rfl, fun _ => rfl⟩
/-- a step that may come: what is at hand, and the state behind it -/
theorem step_ok {line : List Nat} {P : Bool → List Ch} {S : RunM} {k : Key} {x : Stp} (h : RunOk line P S) (hk : KeyOf S k) (hm : k.may (fun f => (P f).length) x = true) :
    (x.2 = true → ∃ ch rest, S.left x.1 = ch :: rest) ∧ (x.2 = false → ∃ y rest, S.Y.r x.1 = y :: rest) ∧ RunOk line P (S.step x) ∧ KeyOf (S.step x) (k.next x) := by
  obtain ⟨f, b⟩ := x
  cases b with
  | true =>
    simp only [Key.may, decide_eq_true_eq] at hm
    rw [← hk.made f] at hm
    have el := h.left f
    obtain ⟨ch, rest, e⟩ : ∃ ch rest, S.left f = ch :: rest := by
      cases q : S.left f with
      | nil =>
        rw [q] at el
        have := congrArg List.length el
        rw [List.length_nil, List.length_drop] at this
        omega
      | cons ch rest => exact ⟨ch, rest, rfl⟩
    have st : S.step (f, true) = ⟨S.Y.make f (ch.deed (S.Y.s f).text), updB S.left f rest⟩ := by
      simp only [RunM.step, e]
    refine ⟨fun _ => ⟨ch, rest, e⟩, fun z => (by cases z), h.make e, ?_⟩
    rw [st]
    refine ⟨fun g => ?_, fun g => ?_⟩
    · by_cases hg : g = f
      · subst hg
        simp only [YardM.make, Key.next, updB_same, makeM, List.length_append, List.length_singleton, hk.made]
      · simp only [YardM.make, Key.next, updB, if_neg hg]
        exact hk.made g
    · by_cases hg : g = f
      · subst hg
        simp only [YardM.make, Key.next, updB_same, makeM, hk.taken]
      · simp only [YardM.make, Key.next, updB, if_neg hg]
        exact hk.taken g
  | false =>
    simp only [Key.may, decide_eq_true_eq] at hm
    rw [← hk.taken f, ← hk.made (!f)] at hm
    obtain ⟨r1, r2⟩ := h.sync.road f
    obtain ⟨y, rest, e⟩ : ∃ y rest, S.Y.r f = y :: rest := by
      cases q : S.Y.r f with
      | nil =>
        rw [q, List.length_nil] at r1
        omega
      | cons y rest => exact ⟨y, rest, rfl⟩
    have st : S.step (f, false) = ⟨S.Y.takeOf f y rest, S.left⟩ := by
      simp only [RunM.step, YardM.take, e]
    refine ⟨fun z => (by cases z), fun _ => ⟨y, rest, e⟩, h.take e, ?_⟩
    rw [st]
    refine ⟨fun g => ?_, fun g => ?_⟩
    · by_cases hg : g = f
      · subst hg
        simp only [YardM.takeOf, Key.next, updB_same, takeM, hk.made]
      · simp only [YardM.takeOf, Key.next, updB, if_neg hg]
        exact hk.made g
    · by_cases hg : g = f
      · subst hg
        simp only [YardM.takeOf, Key.next, updB_same, takeM, hk.taken]
      · simp only [YardM.takeOf, Key.next, updB, if_neg hg]
        exact hk.taken g
theorem steps_ok {line : List Nat} {P : Bool → List Ch} {S : RunM} {k : Key} {st : List Stp} (h : RunOk line P S) (hk : KeyOf S k) (hw : Way (fun f => (P f).length) k st) : RunOk line P (S.steps st) ∧ KeyOf (S.steps st) (k.after st) := by
  induction st generalizing S k with
  | nil => exact ⟨h, hk⟩
  | cons x r ih =>
    obtain ⟨_, _, h1, h2⟩ := step_ok h hk hw.1
    exact ih h1 h2 hw.2

/-! ### how far a key is -/
def Key.size (k : Key) : Nat := k.came true + k.came false + (k.heard true).length + (k.heard false).length
structure KeyIn (n : Bool → Nat) (k : Key) : Prop where
  c : ∀ f, k.came f ≤ (k.heard (!f)).length
  h : ∀ f, (k.heard f).length ≤ n f
  v : ∀ f, ∀ a ∈ k.heard f, a ≤ n (!f)
theorem keyIn0 (n : Bool → Nat) : KeyIn n key0 := ⟨fun _ => Nat.zero_le _, fun _ => Nat.zero_le _, fun _ a h => by simp [key0] at h⟩
theorem KeyIn.next {n : Bool → Nat} {k : Key} (h : KeyIn n k) {x : Stp} (hm : k.may n x = true) : KeyIn n (k.next x) ∧ (k.next x).size = k.size + 1 := by
  obtain ⟨f, b⟩ := x
  cases b with
  | true =>
    simp only [Key.may, decide_eq_true_eq] at hm
    refine ⟨⟨fun g => ?_, fun g => ?_, fun g a ha => ?_⟩, ?_⟩
    · have := h.c g
      simp only [Key.next, updB]
      split
      · rename_i e
        rw [List.length_append, ← e]
        omega
      · exact this
    · have := h.h g
      simp only [Key.next, updB]
      split
      · rename_i e
        subst e
        rw [List.length_append, List.length_singleton]
        omega
      · exact this
    · simp only [Key.next, updB] at ha
      split at ha
      · rename_i e
        subst e
        rcases List.mem_append.mp ha with z | z
        · exact h.v g a z
        · have e2 : a = k.came g := by simpa using z
          subst e2
          exact Nat.le_trans (h.c g) (h.h (!g))
      · exact h.v g a ha
    · cases f <;> simp [Key.size, Key.next, updB] <;> omega
  | false =>
    simp only [Key.may, decide_eq_true_eq] at hm
    refine ⟨⟨fun g => ?_, h.h, h.v⟩, ?_⟩
    · have := h.c g
      simp only [Key.next, updB]
      split
      · rename_i e
        subst e
        omega
      · exact this
    · cases f <;> simp [Key.size, Key.next, updB] <;> omega
theorem way_in {n : Bool → Nat} {k : Key} {st : List Stp} (h : KeyIn n k) (hw : Way n k st) : KeyIn n (k.after st) ∧ (k.after st).size = k.size + st.length := by
  induction st generalizing k with
  | nil => exact ⟨h, rfl⟩
  | cons x r ih =>
    obtain ⟨h1, h2⟩ := h.next hw.1
    obtain ⟨i1, i2⟩ := ih h1 hw.2
    refine ⟨i1, ?_⟩
    show ((k.next x).after r).size = _
    rw [i2, h2, List.length_cons]
    omega
/-- where not all is done a step may come -/
theorem KeyIn.more {n : Bool → Nat} {k : Key} (h : KeyIn n k) (hs : k.size < 2 * n true + 2 * n false) : ∃ x, k.may n x = true := by
  have c1 := h.c true
  have c2 := h.c false
  have h1 := h.h true
  have h2 := h.h false
  simp only [Bool.not_true, Bool.not_false] at c1 c2
  by_cases a : (k.heard true).length < n true
  · exact ⟨(true, true), by simp [Key.may, a]⟩
  by_cases b : (k.heard false).length < n false
  · exact ⟨(false, true), by simp [Key.may, b]⟩
  by_cases c : k.came true < (k.heard false).length
  · exact ⟨(true, false), by simp [Key.may, c]⟩
  by_cases d : k.came false < (k.heard true).length
  · exact ⟨(false, false), by simp [Key.may, d]⟩
  · unfold Key.size at hs
    omega
theorem KeyIn.full {n : Bool → Nat} {k : Key} (h : KeyIn n k) (hs : k.size = 2 * n true + 2 * n false) : ∀ f, (k.heard f).length = n f ∧ k.came f = n (!f) := by
  have c1 := h.c true
  have c2 := h.c false
  have h1 := h.h true
  have h2 := h.h false
  simp only [Bool.not_true, Bool.not_false] at c1 c2
  unfold Key.size at hs
  intro f
  cases f <;> simp only [Bool.not_true, Bool.not_false] <;> omega

/-! ### the line at rest -/
def lens (P : Bool → List Ch) : Bool → Nat := fun f => (P f).length
def endLine (line : List Nat) (P : Bool → List Ch) (st : List Stp) : List Nat := (((run0 line P).steps st).Y.s true).text
structure EndOk (line : List Nat) (P : Bool → List Ch) (T : List Nat) : Prop where
  done : ∃ cs, cs.Perm (P true ++ P false) ∧ Done line cs T
  cuts : (∀ f, ∀ ch ∈ P f, ch.isPut = false) → ∀ f, T.length + min line.length (P f).length ≤ line.length
  alone : ∀ f, P (!f) = [] → T = typed line (P f)
theorem end_ok {line : List Nat} {P : Bool → List Ch} {st : List Stp} (hw : Way (lens P) key0 st) (hl : st.length = 2 * (P true).length + 2 * (P false).length) : EndOk line P (endLine line P st) := by
  obtain ⟨h, hk⟩ := steps_ok (runOk0 line P) (keyOf0 line P) hw
  obtain ⟨ki, ks⟩ := way_in (keyIn0 (lens P)) hw
  have full := ki.full (by rw [ks, hl]; simp [Key.size, key0, lens])
  have md : ∀ f, (((run0 line P).steps st).Y.s f).made = (P f).length := fun f => (hk.made f).trans (full f).1
  have tk : ∀ f, (((run0 line P).steps st).Y.s f).taken = (P (!f)).length := fun f => (hk.taken f).trans (full f).2
  have rd : ∀ f, ((run0 line P).steps st).Y.r f = [] := fun f => by
    have r1 := (h.sync.road f).1
    rw [md, tk] at r1
    exact List.length_eq_zero_iff.mp (by omega)
  have same : (((run0 line P).steps st).Y.s true).text = (((run0 line P).steps st).Y.s false).text := by
    have s := h.sync
    unfold SyncY at s
    rw [rd true, rd false] at s
    exact sync_rest s
  have sm : ∀ f, endLine line P st = (((run0 line P).steps st).Y.s f).text := fun f => by
    cases f with
    | true => rfl
    | false => exact same
  refine ⟨?_, fun hc f => ?_, fun f hp => ?_⟩
  · obtain ⟨cs, p, dn⟩ := h.done true
    rw [md, tk, List.take_length, List.take_length] at p
    exact ⟨cs, p, dn⟩
  · have := h.cuts hc f
    rw [md] at this
    rw [sm f]
    exact this
  · have := h.alone f hp
    rw [md, List.take_length] at this
    rw [sm f]
    exact this
theorem EndOk.puts {line T : List Nat} {P : Bool → List Ch} (h : EndOk line P T) (hp : ∀ f, ∀ ch ∈ P f, ch.isPut = true) : T.Perm (line ++ signsOf (P true ++ P false)) ∧ line.Sublist T := by
  obtain ⟨cs, p, dn⟩ := h.done
  obtain ⟨a, b⟩ := dn.puts fun ch hc => by
    rcases List.mem_append.mp (p.mem_iff.mp hc) with z | z
    · exact hp _ _ z
    · exact hp _ _ z
  refine ⟨a.trans (List.Perm.append_left _ ?_), b⟩
  exact p.flatMap_right _
theorem EndOk.cut {line T : List Nat} {P : Bool → List Ch} (h : EndOk line P T) (hp : ∀ f, ∀ ch ∈ P f, ch.isPut = false) :
    T.Sublist line ∧ T.length + min line.length (max (P true).length (P false).length) ≤ line.length ∧ line.length ≤ T.length + ((P true).length + (P false).length) := by
  obtain ⟨cs, p, dn⟩ := h.done
  have all : ∀ ch ∈ cs, ch.isPut = false := fun ch hc => by
    rcases List.mem_append.mp (p.mem_iff.mp hc) with z | z
    · exact hp _ _ z
    · exact hp _ _ z
  have l := dn.len
  have e : cs.length = (P true).length + (P false).length := by rw [p.length_eq, List.length_append]
  have c1 := h.cuts hp true
  have c2 := h.cuts hp false
  refine ⟨dn.cuts all, ?_, ?_⟩ <;> omega
theorem EndOk.both {line T : List Nat} {P : Bool → List Ch} (h : EndOk line P T) :
    T.length ≤ line.length + (nputs (P true) + nputs (P false)) ∧ line.length + 2 * (nputs (P true) + nputs (P false)) ≤ T.length + ((P true).length + (P false).length) := by
  obtain ⟨cs, p, dn⟩ := h.done
  have l := dn.len
  have e : cs.length = (P true).length + (P false).length := by rw [p.length_eq, List.length_append]
  have e2 : nputs cs = nputs (P true) + nputs (P false) := by
    have := (p.filter Ch.isPut).length_eq
    rw [List.filter_append, List.length_append] at this
    exact this
  omega
end Far
end

section
set_option linter.all false
set_option maxRecDepth 100000
set_option maxHeartbeats 4000000
/-! Own rules, 1: dicts whose keys are nested tuples of ints and whose values are objects. -/
namespace FarN
open PySem PySem.Spec PyProof.Rows L2

/-! ### keys that are tracked tuples -/
mutual
inductive KTrk (H : Hp) : NestedKey → V → Prop
  | num (i : Int) : KTrk H (.num i) (.int i)
  | tup {a : Addr} {ks : List NestedKey} {vs : List V} : H a = some (.tup vs) → KAll H ks vs → KTrk H (.tup ks) (.ref a)
inductive KAll (H : Hp) : List NestedKey → List V → Prop
  | nil : KAll H [] []
  | cons {k : NestedKey} {v : V} {ks : List NestedKey} {vs : List V} : KTrk H k v → KAll H ks vs → KAll H (k :: ks) (v :: vs)
end
section
variable {P : Program} {w : World} {H H' : Hp} {h : Heap}
mutual
theorem KTrk.is (ok : HOk P w H h) : ∀ (k : NestedKey) (v : V) (u : Value), KTrk H k v → RelV v u → NestedIs h k u
  | .none, _, _, x, _ => by cases x
  | .num i, _, _, x, r => by
    cases x
    obtain ⟨t, rfl⟩ := r
    exact .int _ _
  | .text y, _, _, x, _ => by cases x
  | .tup ks, _, _, x, r => by
    cases x with
    | @tup a _ vs e al =>
      cases r
      obtain ⟨_, its, rv, o, h1, h2, n, h3⟩ := (show ObjOk P w H h a (.tup vs) from ok a _ e)
      exact .tup h1 h2 h3 (by simpa using KAll.is ok ks vs its al rv)
theorem KAll.is (ok : HOk P w H h) : ∀ (ks : List NestedKey) (vs : List V) (us : List Value), KAll H ks vs → Vals vs us → NestedAll h ks us
  | [], _, _, x, r => by
    cases x
    cases r
    exact .nil
  | k :: ks, _, _, x, r => by
    cases x with
    | cons x1 x2 =>
      cases r with
      | cons r1 r2 => exact .cons (KTrk.is ok k _ _ x1 r1) (KAll.is ok ks _ _ x2 r2)
end
mutual
/-- a key stays one while the tuples stay -/
theorem KTrk.keep (t : ∀ b xs, H b = some (.tup xs) → H' b = some (.tup xs)) : ∀ (k : NestedKey) (v : V), KTrk H k v → KTrk H' k v
  | .none, _, x => by cases x
  | .num i, _, x => by cases x; exact .num _
  | .text y, _, x => by cases x
  | .tup ks, _, x => by
    cases x with
    | tup e al => exact .tup (t _ _ e) (KAll.keep t ks _ al)
theorem KAll.keep (t : ∀ b xs, H b = some (.tup xs) → H' b = some (.tup xs)) : ∀ (ks : List NestedKey) (vs : List V), KAll H ks vs → KAll H' ks vs
  | [], _, x => by cases x; exact .nil
  | k :: ks, _, x => by
    cases x with
    | cons x1 x2 => exact .cons (KTrk.keep t k _ x1) (KAll.keep t ks _ x2)
end
end

/-! ### the dict -/
/-- an entry: the key, where its tuple stands, where the value stands -/
abbrev Ent := NestedKey × Addr × Addr
def nlift (x : Ent) : NestedKey × Addr × Value := (x.1, x.2.1, .ref x.2.2)
def NPh (P : Program) (w : World) (d : Addr) (xs : List Ent) (h : Heap) : Prop := (d == sysModules) = false ∧
  ∃ o es ep, h.get? d = some o ∧ o.ExactDict ∧ o.data = .dict es ep ∧ es.toList = (xs.map nlift).map (entryOfKey (nestedKind P w)) ∧ ((xs.map nlift).map (·.1)).Nodup
def ND (P : Program) (w : World) (d : Addr) (xs : List Ent) : HO := .ext (NPh P w d xs)
theorem ND.mut {P : Program} {w : World} {d : Addr} {xs : List Ent} : Mut (some (ND P w d xs)) := True.intro
theorem nd_ok {P : Program} {w : World} {H : Hp} {h : Heap} {d : Addr} {xs : List Ent} (x : NPh P w d xs h) : ObjOk P w H h d (ND P w d xs) := by
  obtain ⟨hd, o, es, ep, e, r⟩ := id x
  exact ⟨x, ⟨o, e⟩, fun h1 h2 y k => let ⟨hd', o', es', ep', e', r'⟩ := y; ⟨hd', o', es', ep', k _ e', r'⟩⟩
theorem nd_get {P : Program} {w : World} {H : Hp} {h : Heap} {d : Addr} {xs : List Ent} (x : ObjOk P w H h d (ND P w d xs)) : NPh P w d xs h := x.1
/-- all its keys are tracked -/
def NKeys (H : Hp) (xs : List Ent) : Prop := ∀ x ∈ xs, KTrk H x.1 (.ref x.2.1) ∧ x.1.depth ≤ 8
theorem nd_dict {P : Program} {w : World} {H : Hp} {h : Heap} {d : Addr} {xs : List Ent} (ok : HOk P w H h) (e : H d = some (ND P w d xs)) (hk : NKeys H xs) : (d == sysModules) = false ∧ h.DictOfH (nestedKind P w) d (xs.map nlift) := by
  obtain ⟨hd, o, es, ep, e1, e2, e3, e4, e5⟩ := nd_get (ok d _ e)
  refine ⟨hd, o, es, ep, e1, e2, e3, e4, fun x hx => ?_, e5⟩
  obtain ⟨y, hy, rfl⟩ := List.mem_map.mp hx
  obtain ⟨k1, k2⟩ := hk y hy
  exact ⟨KTrk.is ok _ _ _ k1 rfl, k2⟩
theorem nd_of {P : Program} {w : World} {h : Heap} {d : Addr} {xs : List Ent} (hd : (d == sysModules) = false) (x : h.DictOfH (nestedKind P w) d (xs.map nlift)) : NPh P w d xs h := by
  obtain ⟨o, es, ep, e1, e2, e3, e4, _, e5⟩ := x
  exact ⟨hd, o, es, ep, e1, e2, e3, e4, e5⟩

def getN (xs : List Ent) (k : NestedKey) : Option Addr := (xs.find? fun x => decide (x.1 = k)).map (·.2.2)
def putN (xs : List Ent) (k : NestedKey) (a b : Addr) : List Ent := if (getN xs k).isSome then xs.map fun x => if x.1 = k then (x.1, x.2.1, b) else x else xs ++ [(k, a, b)]
theorem getN_lift (xs : List Ent) (k : NestedKey) : (atKey (xs.map nlift) k).map (·.2) = (getN xs k).map Value.ref := by
  induction xs with
  | nil => rfl
  | cons x xs ih =>
    by_cases h : x.1 = k
    · simp [atKey, getN, nlift, h]
    · simpa [atKey, getN, nlift, h] using ih
theorem getN_some (xs : List Ent) (k : NestedKey) : (atKey (xs.map nlift) k).isSome = (getN xs k).isSome := by
  have := congrArg Option.isSome (getN_lift xs k)
  simpa using this
theorem putN_lift (xs : List Ent) (k : NestedKey) (a b : Addr) : storedH (xs.map nlift) k a (.ref b) = (putN xs k a b).map nlift := by
  unfold storedH putN
  rw [getN_some]
  split
  · rw [List.map_map, List.map_map]
    refine List.map_congr_left fun x _ => ?_
    by_cases h : x.1 = k
    · simp [putAt, nlift, h]
    · simp [putAt, nlift, h]
  · simp [nlift]
theorem putN_length (xs : List Ent) (k : NestedKey) (a b : Addr) : (putN xs k a b).length ≤ xs.length + 1 := by
  unfold putN
  split
  · rw [List.length_map]; omega
  · rw [List.length_append]; exact Nat.le_refl _

/-! ### {} and a display of one pair -/
def tNNew (P : Program) (w : World) : TE := fun _ H Q => ∀ p, H p = none → Q (.ref p) (upd H p (ND P w p []))
section
variable {X : Cx} {pos : Pos}
theorem nd_empty {P : Program} {w : World} {H : Hp} (h : Heap) (hb : sysModules < h.objs.size) : NPh P w h.objs.size [] (h.push { cls := .type "dict", data := .dict #[] }) :=
  ⟨beq_eq_false_iff_ne.mpr (Ne.symm (Nat.ne_of_lt hb)), _, #[], 0, Heap.get?_push_size _ rfl, ⟨rfl, rfl, rfl⟩, rfl, rfl, List.nodup_nil⟩
theorem pe_nnew : PE X (.Dict [] [] pos) (tNNew X.prog X.w) := ⟨fun pins s σ H Q I h =>
  wpAny_Dict_empty ⟨.ref s.heap.objs.size, _, I.laid (a := s.heap.objs.size) (o := ND X.prog X.w s.heap.objs.size []) (t' := s.toks) (fun _ _ q => Heap.get?_push_of_some _ q) (Nat.le_refl _) (nd_ok (nd_empty (H := H) s.heap I.big)), rfl, h _ (I.hok.fresh (Nat.le_refl _))⟩⟩
/-- {k: v}, k a nested tuple, v an object -/
def tNOne (P : Program) (w : World) (tk tv : TE) : TE := fun σ H Q => ∀ p, H p = none → tk σ (upd H p (ND P w p [])) fun x H1 => tv σ H1 fun y H2 =>
  H2 p = some (ND P w p []) ∧ ∃ k a b, x = .ref a ∧ y = .ref b ∧ KTrk H2 k (.ref a) ∧ k.depth ≤ 8 ∧ Q (.ref p) (upd H2 p (ND P w p [(k, a, b)]))
theorem pe_none1 {k v : Expr} {tk tv : TE} (hu : X.A.units + 8 < cLine) (hk : PE X k tk) (hv : PE X v tv) : PE X (.Dict [some k] [v] pos) (tNOne X.prog X.w tk tv) := by
  refine ⟨fun pins s σ H Q I q => ?_⟩
  have hn := I.hok.fresh (Nat.le_refl s.heap.objs.size)
  have I1 := I.laid (a := s.heap.objs.size) (o := ND X.prog X.w s.heap.objs.size []) (h' := s.heap.push { cls := .type "dict", data := .dict #[] }) (t' := s.toks) (fun _ _ q => Heap.get?_push_of_some _ q) (Nat.le_refl _) (nd_ok (nd_empty (H := H) s.heap I.big))
  have hshape := zip_pairTrees [some k] [v] X.env pos rfl rfl
  rw [arm_eval_Dict, hshape, dictDisplay_pairs (pairTrees [some k] [v] X.env pos) (fun z => by cases z) (by show 1 < 17; decide)]
  refine wpAny_bind (wpAny_standAt (wpAny_bind (wpAny_subDictH (knd := nestedKind X.prog X.w) hu (by show 1 ≤ 15; decide) ?_)))
  refine pairTrees_cons_walk (thn (hk.run pins _ σ _ _ I1 (q _ hn)) fun u s1 ⟨x, H1, I2, rx, q1⟩ => thn (hv.run pins s1 σ H1 _ I2 q1) fun w2 s2 ⟨y, H2, I3, ry, q2⟩ => pairTrees_nil_walk ?_)
  obtain ⟨e, kk, a, b, rfl, rfl, ek, dk, q3⟩ := q2
  cases rx
  cases ry
  obtain ⟨hd, dd⟩ := nd_dict I3.hok e (fun x hx => nomatch hx)
  refine ⟨[(kk, a, .ref b)], ⟨rfl, rfl, ⟨KTrk.is I3.hok _ _ _ ek rfl, dk⟩, trivial⟩, dd, fun h' tk' dd' hs => wpAny_pure ?_⟩
  have e0 : storedAllH [] [(kk, a, Value.ref b)] = [(kk, a, b)].map nlift := rfl
  rw [e0] at dd'
  have new : NPh X.prog X.w s.heap.objs.size [(kk, a, b)] h' := nd_of hd dd'
  have he : ∃ q, h'.get? s.heap.objs.size = some q := let ⟨_, o, _, _, e1, _⟩ := new; ⟨o, e1⟩
  exact ⟨.ref s.heap.objs.size, _, d_write I3 (by rw [e]; exact True.intro) hs he (nd_ok new), rfl, q3⟩

/-! ### d.get(k, x) -/
def tNGet2 (P : Program) (w : World) (td ty tx : TE) : TE := fun σ H Q => td σ H fun x H1 => ∃ d, x = .ref d ∧ (∃ xs, H1 d = some (ND P w d xs)) ∧ ty σ H1 fun y H2 => tx σ H2 fun z H3 =>
  ∃ xs k a, y = .ref a ∧ H3 d = some (ND P w d xs) ∧ NKeys H3 xs ∧ KTrk H3 k (.ref a) ∧ k.depth ≤ 8 ∧ Q (((getN xs k).map V.ref).getD z) H3
variable {o e f : Expr} {apos cpos : Pos} {td ty tx : TE}
theorem nd_typeIs {P : Program} {w : World} {H : Hp} {s : Shared} {d : Addr} {xs : List Ent} (ok : HOk P w H s.heap) (e : H d = some (ND P w d xs)) : s.TypeIs (.ref d) "dict" ∧ (∀ b, Value.ref d = .ref b → ∃ ob, s.heap.get? b = some ob ∧ ob.dict = none) ∧ (d == sysModules) = false := by
  obtain ⟨hd, ob, es, ep, e1, e2, e3, _⟩ := nd_get (ok d _ e)
  exact ⟨⟨ob, e1, e2.1⟩, fun b q => by injection q with q; subst q; exact ⟨ob, e1, e2.2.1⟩, hd⟩
theorem pe_nget2 (hu : X.A.units + 10 < cLine) (ho : PE X o td) (he : PE X e ty) (hf : PE X f tx) (m : M2 X o "get" apos e f cpos) : PE X (.Call (.Attribute o "get" apos) [e, f] [] cpos) (tNGet2 X.prog X.w td ty tx) := by
  refine ⟨fun pins s σ H Q I h => ?_⟩
  refine wpAny_Call_method m.base m.few m.line PySem.F.plainAttrs_dict PySem.F.slot_dict_get PySem.F.type_dict_get (thn (ho.run pins s σ H _ I h) fun u s1 ⟨x, H1, I1, rx, d, ex, ⟨xs0, hd0⟩, q1⟩ => ?_)
  subst ex
  obtain rfl : u = Value.ref d := rx
  obtain ⟨t1, t2, _⟩ := nd_typeIs I1.hok hd0
  refine ⟨t1, t2, ?_⟩
  rw [m.trees]
  refine Calls.callWith_builtin rfl (Calls.evalArgs_plain (Calls.spliced_cons (thn (he.run pins s1 σ H1 _ I1 q1) fun iv s2 ⟨y, H2, I2, ry, q2⟩ =>
    Calls.spliced_cons (thn (hf.run pins s2 σ H2 _ I2 q2) fun fv s3 ⟨z, H3, I3, rz, xs, k, a, ey, hd, hk, ek, dk, q3⟩ => Calls.spliced_nil ?_))))
  subst ey
  obtain rfl : iv = Value.ref a := ry
  obtain ⟨hs, dd⟩ := nd_dict I3.hok hd hk
  refine call_meetsIn F.slot_dict_get dd.typeIs F.entry_dict_get (F.args_dict_get_3 _ _ _) (meetsH_dict_get_default (nestedKind X.prog X.w) d a hs fv) ⟨?_, k, _, ⟨KTrk.is I3.hok _ _ _ ek rfl, dk⟩, dd, ?_⟩
  · show X.A.units + 1 + 8 < cLine
    omega
  · show EP X pins σ Q _ _
    rw [getN_lift]
    refine ⟨((getN xs k).map V.ref).getD z, H3, I3.tok _, ?_, q3⟩
    cases getN xs k with
    | none => exact rz
    | some b => exact (rfl : Value.ref b = Value.ref b)

/-! ### d[k] = v -/
def tNSet (P : Program) (w : World) : TSet := fun o i v H Q => ∃ d xs k a b, o = .ref d ∧ i = .ref a ∧ v = .ref b ∧ H d = some (ND P w d xs) ∧ NKeys H xs ∧ KTrk H k (.ref a) ∧ k.depth ≤ 8 ∧ xs.length < sizeLine ∧ Q (upd H d (ND P w d (putN xs k a b)))
theorem set_nd (hu : X.A.units + 10 < cLine) : PSet X (tNSet X.prog X.w) := by
  intro pins s σ H o i v ov iv u Q I ro ri rv h
  obtain ⟨d, xs, k, a, b, rfl, rfl, rfl, hd, hk, ek, dk, hl, q⟩ := h
  cases ro
  cases ri
  cases rv
  obtain ⟨hs, dd⟩ := nd_dict I.hok hd hk
  refine wpAny_setItem_heap (knd := nestedKind X.prog X.w) (hsz := by rw [List.length_map]; omega) (by show X.A.units + 1 + 8 < cLine; omega) ⟨KTrk.is I.hok _ _ _ ek rfl, dk⟩ dd fun h' dd' sb => ?_
  rw [putN_lift] at dd'
  have new : NPh X.prog X.w d (putN xs k a b) h' := nd_of hs dd'
  have he : ∃ q, h'.get? d = some q := let ⟨_, o, _, _, e1, _⟩ := new; ⟨o, e1⟩
  exact ⟨_, d_write I (by rw [hd]; exact True.intro) sb he (nd_ok new), q⟩
end

/-! ### walks, the dict locked -/
/-- the pairs, each a new tuple -/
def Itn (P : Program) (w : World) (d : Addr) (o : Obj) (xs : List Ent) : It :=
  ⟨fun i H => H d = some (.frz o (ND P w d xs)) ∧ i < xs.length, fun i H v H' => ∃ T x, xs[i]? = some x ∧ v = .ref T ∧ H T = none ∧ H' = upd H T (.tup [.ref x.2.1, .ref x.2.2]), fun i H => H d = some (.frz o (ND P w d xs)) ∧ xs.length ≤ i⟩
/-- the values -/
def Itnv (P : Program) (w : World) (d : Addr) (o : Obj) (xs : List Ent) : It :=
  ⟨fun i H => H d = some (.frz o (ND P w d xs)) ∧ i < xs.length, fun i H v H' => H' = H ∧ ∃ x, xs[i]? = some x ∧ v = .ref x.2.2, fun i H => H d = some (.frz o (ND P w d xs)) ∧ xs.length ≤ i⟩
section
variable {X : Cx} {pins : List (Addr × Obj)} {σ : L2.St} {H : Hp} {s : Shared} {d : Addr} {o : Obj} {xs : List Ent}
theorem frzN (I : Inv X pins σ H s) (h : H d = some (.frz o (ND X.prog X.w d xs))) :
    (d == sysModules) = false ∧ s.heap.get? d = some o ∧ o.ExactDict ∧ ∃ (es : Array DictEntry) (ep : Nat), o.data = .dict es ep ∧ es.size = xs.length ∧
      ∀ (i : Nat) (hi : i < es.size), ∃ x, xs[i]? = some x ∧ es[i].key = .ref x.2.1 ∧ es[i].val = .ref x.2.2 := by
  obtain ⟨hd, x⟩ := I.hok d _ h
  obtain ⟨hs, o', es, ep, e1, e2, e3, e4, _⟩ := nd_get x
  rw [hd] at e1
  cases e1
  have hsz := size_of_entries e4
  rw [List.length_map] at hsz
  refine ⟨hs, hd, e2, es, ep, e3, hsz, fun i hi => ?_⟩
  have hx : i < xs.length := hsz ▸ hi
  have q := entry_at e4 i
  rw [Array.getElem?_eq_getElem hi, List.getElem?_map, List.getElem?_eq_getElem hx] at q
  have q' : es[i] = entryOfKey (nestedKind X.prog X.w) (nlift xs[i]) := Option.some.inj q
  refine ⟨xs[i], List.getElem?_eq_getElem hx, ?_, ?_⟩
  · rw [q']; rfl
  · rw [q']; rfl
end
section
variable {P : Program} {w : World} {K : PySem.W.Frag} {tg : Expr} {d : Addr} {o : Obj} {es : Array DictEntry} {ep : Nat} {xs : List Ent}
theorem turn_nvals (it : Addr) (hod : o.data = .dict es ep) : Turn P w K tg (Itnv P w d o xs) [it] it (fun i h => h.IsValIter it d i es.size ep) where
  mem := by simp
  obj := fun i h st b hb => by
    have e : b = it := by simpa using hb
    subst e
    obtain ⟨oi, e, c, dd⟩ := st
    exact ⟨oi, e, fun v z => by rw [dd] at z; cases z⟩
  keep := fun i h h' st k => st.at fun oi e => k it (by simp) oi e
  item := by
    intro X hP hw hK hc i pins s σ H E I hf st hg
    subst hP hw hK
    obtain ⟨hd, hi⟩ := hg
    obtain ⟨f0, f1, f2, f3, f4, f5⟩ := hf it (by simp)
    obtain ⟨hs, hgd, hx, es', ep', hdt, hsz, ent⟩ := frzN I hd
    obtain ⟨rfl, rfl⟩ := dict_ep hod hdt
    have hlt : i < es'.size := by rw [hsz]; exact hi
    obtain ⟨x, hxi, hk, hv⟩ := ent i hlt
    refine wpAny_pyNext_values_item_raw st ⟨o, hgd, hx, hdt⟩ hlt fun h' st' sb => ?_
    have I1 : Inv X pins σ H { s with heap := h' } := I.turned (t' := s.toks) (fun b ob hb e => (sb.2 b hb).trans e) f0 f1 f3 f4 f5
    obtain ⟨oi, e, c, dd⟩ := id st'
    exact ⟨_, rfl, go_of (s := { s with heap := h' }) e c dd (by decide) ⟨.ref x.2.2, H, I1, hv, ⟨rfl, x, hxi, rfl⟩, st', fun b hb => (hf b hb).1⟩⟩
  done := by
    intro X hP hw hK hc i pins s σ H E I hf st hg
    subst hP hw hK
    obtain ⟨hd, hi⟩ := hg
    obtain ⟨f0, f1, f2, f3, f4, f5⟩ := hf it (by simp)
    obtain ⟨hs, hgd, hx, es', ep', hdt, hsz, ent⟩ := frzN I hd
    obtain ⟨rfl, rfl⟩ := dict_ep hod hdt
    exact wpAny_pyNext_values_end_raw (I.ok.hd hc) st ⟨o, hgd, hx, hdt⟩ (by rw [hsz]; exact hi) fun h' eb => ⟨rfl, I.turned (t' := s.toks) (fun b ob hb e => eb b ob hb e) f0 f1 f3 f4 f5⟩
  self := fun A i s Q E st h => wpAny_pyIter_valiter st h
theorem turn_nitems {elts : List Expr} {kk : Nat} {tpos : Pos} (it : Addr) (hod : o.data = .dict es ep) :
    Turn P w K (.Tuple elts kk tpos) (Itn P w d o xs) [it] it (fun i h => ∃ ok ov, IsItemIter h it d i es.size ep ok ov) where
  mem := by simp
  obj := fun i h st b hb => by
    have e : b = it := by simpa using hb
    subst e
    obtain ⟨ok, ov, e⟩ := st
    exact ⟨_, e, fun v z => nomatch z⟩
  keep := fun i h h' st k => let ⟨ok, ov, e⟩ := st; ⟨ok, ov, k it (by simp) _ e⟩
  item := by
    intro X hP hw hK hc i pins s σ H E I hf st hg
    subst hP hw hK
    obtain ⟨hd, hi⟩ := hg
    obtain ⟨hs, hgd, hx, es', ep', hdt, hsz, ent⟩ := frzN I hd
    obtain ⟨rfl, rfl⟩ := dict_ep hod hdt
    have hlt' : i < es'.size := by rw [hsz]; exact hi
    obtain ⟨x, hxi, hk, hv⟩ := ent i hlt'
    obtain ⟨ok, ov, he⟩ := st
    have hlt : it < s.heap.objs.size := Heap.lt_size he
    refine wpAny_pyNext_items_item_raw he ⟨o, hgd, hx, hdt⟩ hlt' fun h' ho hT hz hkp => ?_
    refine ⟨_, rfl, wpAny_letOwnedTupleGo_items (s := { s with heap := h' }) ho fun h'' he' sb => ?_⟩
    have hT2 : h''.get? s.heap.objs.size = some { cls := .type "tuple", data := .seq #[es'[i].key, es'[i].val] } := (sb.2 _ (Nat.ne_of_gt hlt)).trans hT
    have new : ObjOk X.prog X.w (upd H s.heap.objs.size (.tup [.ref x.2.1, .ref x.2.2])) h'' s.heap.objs.size (.tup [.ref x.2.1, .ref x.2.2]) :=
      ⟨by show 2 ≤ sizeLine; decide, [es'[i].key, es'[i].val], .cons hk (.cons hv .nil), ⟨_, hT2, rfl, _, rfl⟩⟩
    have I1 : Inv X pins σ (upd H s.heap.objs.size (.tup [.ref x.2.1, .ref x.2.2])) { s with heap := h'' } :=
      I.turnedNew (t' := s.toks) (ch := [it]) (fun b ob hb e => (sb.2 b (by simpa using hb)).trans (hkp b ob (by simpa using hb) e)) hf (Nat.le_refl _) new
    refine ⟨.ref s.heap.objs.size, _, I1, rfl, ⟨_, x, hxi, rfl, I.hok.fresh (Nat.le_refl _), rfl⟩, ⟨_, _, he'⟩, fun b hb => ?_⟩
    have e : b = it := by simpa using hb
    rw [e, upd_ne (Nat.ne_of_lt hlt)]
    exact (hf it (by simp)).1
  done := by
    intro X hP hw hK hc i pins s σ H E I hf st hg
    subst hP hw hK
    obtain ⟨hd, hi⟩ := hg
    obtain ⟨f0, f1, f2, f3, f4, f5⟩ := hf it (by simp)
    obtain ⟨hs, hgd, hx, es', ep', hdt, hsz, ent⟩ := frzN I hd
    obtain ⟨rfl, rfl⟩ := dict_ep hod hdt
    obtain ⟨ok, ov, he⟩ := st
    exact wpAny_pyNext_items_end_raw (I.ok.hd hc) he ⟨o, hgd, hx, hdt⟩ (by rw [hsz]; exact hi) fun h' eb => ⟨rfl, I.turned (t' := s.toks) (fun b ob hb e => eb b ob hb e) f0 f1 f3 f4 f5⟩
  self := fun A i s Q E st h => let ⟨_, _, e⟩ := st; PySem.W.kcp_self e h
end
def iNVals (P : Program) (w : World) (td : TE) : TI := fun σ H R => td σ H fun x H1 => ∃ d o xs, x = .ref d ∧ H1 d = some (.frz o (ND P w d xs)) ∧ R (Itnv P w d o xs) H1
def iNItems (P : Program) (w : World) (td : TE) : TI := fun σ H R => td σ H fun x H1 => ∃ d o xs, x = .ref d ∧ H1 d = some (.frz o (ND P w d xs)) ∧ R (Itn P w d o xs) H1
section
variable {X : Cx} {tg e : Expr} {td : TE} {apos cpos : Pos}
theorem pi_nvalues (he : PE X e td) (hbase : attributeBase e "values" X.env (eval e X.env) = eval e X.env := by rfl) (hline : (apos.endLine == cpos.line) = true := by rfl) : PI X tg (.Call (.Attribute e "values" apos) [] [] cpos) (iNVals X.prog X.w td) := by
  refine ⟨fun pins s σ H R I h => ?_⟩
  refine wpAny_Call_method (T := "dict") (id := "dict.values") hbase rfl hline F.plainAttrs_dict F.slot_dict_values F.type_dict_values (thn (he.run pins s σ H _ I h) fun u s1 ⟨x, H1, I1, rx, d, o, xs, ex, hd, q⟩ => ?_)
  subst ex
  obtain rfl : u = Value.ref d := rx
  obtain ⟨hs, hgd, hx, es, ep, hdt, hsz, ent⟩ := frzN I1 hd
  have hm : s1.heap.DictRaw d es ep := ⟨o, hgd, hx, hdt⟩
  refine ⟨hm.typeIs, fun b q => by injection q with q; subst q; exact ⟨o, hgd, hx.2.1⟩, ?_⟩
  have I2 : Inv X pins σ H1 { s1 with heap := s1.heap.push { cls := .type "dict_values", data := .fields #[.ref d] } } := I1.kept (t' := s1.toks) fun b ob q => Heap.get?_push_of_some _ q
  have fin : wpAny (model X.prog X.w) X.A (pyIter (.ref s1.heap.objs.size)) (PIE X pins σ tg R) X.xe { s1 with heap := s1.heap.push { cls := .type "dict_values", data := .fields #[.ref d] } } := by
    exact wpAny_pyIter_values_raw (d := d) ⟨_, Heap.get?_push_size _ rfl, rfl, rfl⟩ (hm.at fun _ q => Heap.get?_push_of_some _ q) (pi_one (tk := s1.toks) I2 _ (turn_nvals _ hdt) ⟨_, Heap.get?_push_size _ rfl, rfl, rfl⟩ q)
  show wpAny _ _ (callWith cpos (.builtin "dict.values") [.ref d] [] []) _ X.xe s1
  exact method_meetsIn F.slot_dict_values F.entry_dict_values rfl (PySem.evalArgs_none ⟨rfl, hm.typeIs, F.args_dict_values_1 _, _, meets_dict_values_raw d hs, ⟨es, ep, hm⟩, fin⟩)
theorem pi_nitems {elts : List Expr} {kk : Nat} {tpos : Pos} (he : PE X e td) (hbase : attributeBase e "items" X.env (eval e X.env) = eval e X.env := by rfl) (hline : (apos.endLine == cpos.line) = true := by rfl) :
    PI X (.Tuple elts kk tpos) (.Call (.Attribute e "items" apos) [] [] cpos) (iNItems X.prog X.w td) := by
  refine ⟨fun pins s σ H R I h => ?_⟩
  refine wpAny_Call_method (T := "dict") (id := "dict.items") hbase rfl hline F.plainAttrs_dict F.slot_dict_items F.type_dict_items (thn (he.run pins s σ H _ I h) fun u s1 ⟨x, H1, I1, rx, d, o, xs, ex, hd, q⟩ => ?_)
  subst ex
  obtain rfl : u = Value.ref d := rx
  obtain ⟨hs, hgd, hx, es, ep, hdt, hsz, ent⟩ := frzN I1 hd
  have hm : s1.heap.DictRaw d es ep := ⟨o, hgd, hx, hdt⟩
  refine ⟨hm.typeIs, fun b q => by injection q with q; subst q; exact ⟨o, hgd, hx.2.1⟩, ?_⟩
  have I2 : Inv X pins σ H1 { s1 with heap := s1.heap.push { cls := .type "dict_items", data := .fields #[.ref d] } } := I1.kept (t' := s1.toks) fun b ob q => Heap.get?_push_of_some _ q
  have fin : wpAny (model X.prog X.w) X.A (pyIter (.ref s1.heap.objs.size)) (PIE X pins σ (.Tuple elts kk tpos) R) X.xe { s1 with heap := s1.heap.push { cls := .type "dict_items", data := .fields #[.ref d] } } := by
    exact wpAny_pyIter_items_raw (d := d) ⟨_, Heap.get?_push_size _ rfl, rfl, rfl⟩ (hm.at fun _ q => Heap.get?_push_of_some _ q) (pi_one (tk := s1.toks) I2 _ (turn_nitems _ hdt) ⟨.none, .none, Heap.get?_push_size _ rfl⟩ q)
  show wpAny _ _ (callWith cpos (.builtin "dict.items") [.ref d] [] []) _ X.xe s1
  exact method_meetsIn F.slot_dict_items F.entry_dict_items rfl (PySem.evalArgs_none ⟨rfl, hm.typeIs, F.args_dict_items_1 _, _, meets_dict_items_raw d hs, ⟨es, ep, hm⟩, fin⟩)
end

/-! ### the loops one uses -/
theorem for_nitems {P : Program} {w : World} {d : Addr} {o : Obj} {xs : List Ent} {g : TG} {tb : TS} {D : Ends} {σ : L2.St} {H : Hp} (Pv : Nat → L2.St → Hp → Prop) (h0 : Pv 0 σ H) (hl : ∀ i σ H, i ≤ xs.length → Pv i σ H → H d = some (.frz o (ND P w d xs)))
    (hs : ∀ i x σ H T, xs[i]? = some x → Pv i σ H → H T = none → g (.ref T) σ (upd H T (.tup [.ref x.2.1, .ref x.2.2])) fun σ2 H2 => tb { D with nx := Pv (i + 1), ct := Pv (i + 1), bk := D.nx } σ2 H2) (hd : ∀ σ H, Pv xs.length σ H → D.nx σ H) :
    ∃ W : Nat → Nat → L2.St → Hp → Prop, (∃ m, W 0 m σ H) ∧ ∀ i m σ H, W i m σ H →
      ((Itn P w d o xs).stop i H ∧ D.nx σ H) ∨ ((Itn P w d o xs).go i H ∧ ∃ N : L2.St → Hp → Prop, (∀ σ' H', N σ' H' → ∃ m', m' < m ∧ W (i + 1) m' σ' H') ∧ ∀ x H', (Itn P w d o xs).yld i H x H' → g x σ H' fun σ2 H2 => tb { D with nx := N, ct := N, bk := D.nx } σ2 H2) := by
  refine ⟨fun i m σ H => m = xs.length - i ∧ i ≤ xs.length ∧ Pv i σ H, ⟨xs.length, by simp, Nat.zero_le _, h0⟩, ?_⟩
  rintro i m σ H ⟨rfl, hi, p⟩
  have q := hl i σ H hi p
  by_cases hlt : i < xs.length
  · refine .inr ⟨⟨q, hlt⟩, Pv (i + 1), fun σ' H' p' => ⟨xs.length - (i + 1), by omega, rfl, hlt, p'⟩, fun v H' y => ?_⟩
    obtain ⟨T, x, hx, rfl, hT, rfl⟩ := y
    exact hs i x σ H T hx p hT
  · have e : i = xs.length := by omega
    subst e
    exact .inl ⟨⟨q, Nat.le_refl _⟩, hd σ H p⟩
theorem for_nvalues {P : Program} {w : World} {d : Addr} {o : Obj} {xs : List Ent} {g : TG} {tb : TS} {D : Ends} {σ : L2.St} {H : Hp} (Pv : Nat → L2.St → Hp → Prop) (h0 : Pv 0 σ H) (hl : ∀ i σ H, i ≤ xs.length → Pv i σ H → H d = some (.frz o (ND P w d xs)))
    (hs : ∀ i x σ H, xs[i]? = some x → Pv i σ H → g (.ref x.2.2) σ H fun σ2 H2 => tb { D with nx := Pv (i + 1), ct := Pv (i + 1), bk := D.nx } σ2 H2) (hd : ∀ σ H, Pv xs.length σ H → D.nx σ H) :
    ∃ W : Nat → Nat → L2.St → Hp → Prop, (∃ m, W 0 m σ H) ∧ ∀ i m σ H, W i m σ H →
      ((Itnv P w d o xs).stop i H ∧ D.nx σ H) ∨ ((Itnv P w d o xs).go i H ∧ ∃ N : L2.St → Hp → Prop, (∀ σ' H', N σ' H' → ∃ m', m' < m ∧ W (i + 1) m' σ' H') ∧ ∀ x H', (Itnv P w d o xs).yld i H x H' → g x σ H' fun σ2 H2 => tb { D with nx := N, ct := N, bk := D.nx } σ2 H2) := by
  refine ⟨fun i m σ H => m = xs.length - i ∧ i ≤ xs.length ∧ Pv i σ H, ⟨xs.length, by simp, Nat.zero_le _, h0⟩, ?_⟩
  rintro i m σ H ⟨rfl, hi, p⟩
  have q := hl i σ H hi p
  by_cases hlt : i < xs.length
  · refine .inr ⟨⟨q, hlt⟩, Pv (i + 1), fun σ' H' p' => ⟨xs.length - (i + 1), by omega, rfl, hlt, p'⟩, fun v H' y => ?_⟩
    obtain ⟨rfl, x, hx, rfl⟩ := y
    exact hs i x σ _ hx p
  · have e : i = xs.length := by omega
    subst e
    exact .inl ⟨⟨q, Nat.le_refl _⟩, hd σ H p⟩
end FarN
end

section
set_option linter.all false
set_option maxRecDepth 100000
set_option maxHeartbeats 4000000
/-! Own rules, 2: sorted and list of a text, sorted of texts at any length, a dict's values summed, its items sorted, get of a written dict. -/
namespace FarR
open PySem PySem.Spec PyProof.Rows L2 PySem.W PySem.Calls PyProof.V

/-! ### sorted texts -/
def leS (a b : Str) : Bool := decide (a.cps.toList ≤ b.cps.toList)
def srt (xs : List Str) : List Str := xs.mergeSort leS
def one (c : Nat) : Str := ⟨#[c]⟩
def chs (z : Str) : List Str := z.cps.toList.map one
theorem leS_total (a b : Str) : (leS a b || leS b a) = true := by
  unfold leS
  rcases List.le_total a.cps.toList b.cps.toList with h | h <;> simp [h]
theorem leS_trans (a b c : Str) (h1 : leS a b = true) (h2 : leS b c = true) : leS a c = true := by
  unfold leS at *
  simp only [decide_eq_true_eq] at *
  exact List.le_trans h1 h2
theorem leS_anti (a b : Str) (h1 : leS a b = true) (h2 : leS b a = true) : a = b := by
  unfold leS at *
  simp only [decide_eq_true_eq] at *
  have e := List.le_antisymm h1 h2
  cases a; cases b
  simp only [Str.mk.injEq]
  exact Array.toList_inj.mp e
theorem srt_perm {xs ys : List Str} (h : xs.Perm ys) : srt xs = srt ys := by
  have p : (srt xs).Perm (srt ys) := (List.mergeSort_perm xs leS).trans (h.trans (List.mergeSort_perm ys leS).symm)
  refine List.Perm.eq_of_pairwise (le := fun a b => leS a b = true) (fun a b _ _ h1 h2 => leS_anti a b h1 h2) ?_ ?_ p
  · exact List.pairwise_mergeSort leS_trans leS_total xs
  · exact List.pairwise_mergeSort leS_trans leS_total ys
theorem srt_length (xs : List Str) : (srt xs).length = xs.length := List.length_mergeSort _

theorem each_get {α β : Type} {R : α → β → Prop} : ∀ {as : List α} {bs : List β}, as.length = bs.length → (∀ (i : Nat) (a : α), as[i]? = some a → ∃ b, bs[i]? = some b ∧ R a b) → EachIs R as bs
  | [], [], _, _ => .nil
  | [], _ :: _, h, _ => by simp at h
  | _ :: _, [], h, _ => by simp at h
  | a :: as, b :: bs, h, g => by
    obtain ⟨b', e, r⟩ := g 0 a rfl
    have e' : b = b' := Option.some.inj e
    subst e'
    exact .cons r (each_get (by simpa using h) fun i a' q => g (i + 1) a' (by simpa using q))
theorem vals_each : ∀ {xs : List Str} {us : List Value}, EachIs (fun v b => ∃ t, v = Value.str b t) us xs → Vals (xs.map V.str) us
  | [], _, r => by cases r; exact .nil
  | x :: xs, _, r => by
    cases r with
    | cons h t => exact .cons h (vals_each t)
theorem each_vals : ∀ {xs : List Str} {us : List Value}, Vals (xs.map V.str) us → EachIs (fun v b => ∃ t, v = Value.str b t) us xs
  | [], _, r => by
    rw [List.map_nil] at r
    cases r
    exact .nil
  | x :: xs, _, r => by
    rw [List.map_cons] at r
    cases r with
    | cons h t => exact .cons h (each_vals t)
theorem merge_leS (xs : List Str) : xs.mergeSort (dataLe false PyData.str) = srt xs := by
  have e := dataLe_str (β := Str) (fun b => b)
  unfold srt
  congr 1
theorem alike_strs (xs : List Str) : AllAlike (xs.map PyData.str) := AllAlike.of (enc := PyData.str) (bs := xs) fun b b' => by simp [alike]
theorem sortable_strs (xs : List Str) : PySem.W.Sortable (xs.map PyData.str) := PySem.W.Sortable.others (enc := PyData.str) (bs := xs) fun b => ⟨fun z => (by cases z), fun _ z => (by cases z)⟩

section
variable {X : Cx}
/-- list.sort of a new list of texts, just made ahead of it -/
theorem sort_texts {A : Around} {pins : List (Addr × Obj)} {σ : L2.St} {H : Hp} {s : Shared} {E : Value → Shared → Prop} {Q : VK} {xs : List Str} {us : List Value} {a : Addr} (hu : A.units + 2 < cLine) (I : Inv X pins σ H s) (rv : Vals (xs.map V.str) us) (hl : xs.length ≤ sizeLine)
    (ha : a = s.heap.objs.size) (q : ∀ p, H p = none → Q (.ref p) (upd H p (.lst ((srt xs).map V.str)))) :
    wpAny (model X.prog X.w) A (call (.builtin "list.sort") [.ref a]) (fun _ s' => EP X pins σ Q (.ref a) s') E { s with heap := s.heap.push { cls := .type "list", data := .seq us.toArray } } := by
  subst ha
  have ho : (s.heap.push { cls := .type "list", data := .seq us.toArray }).get? s.heap.objs.size = some (seqObj "list" us.toArray 0) := Heap.get?_push_size _ rfl
  have e := each_vals rv
  refine list_sort_data (s := { s with heap := s.heap.push { cls := .type "list", data := .seq us.toArray } }) (R := fun v b => ∃ t, v = Value.str b t) (enc := PyData.str) ho e (e.mono fun v b ⟨t, ev⟩ => ⟨[], by rw [ev]; exact .str _ _, by simp⟩) (alike_strs xs) (sortable_strs xs) hl
    (fun b hb => by show A.units + 1 + 0 < cLine; omega) fun out ho' eo => ?_
  rw [merge_leS] at eo
  obtain ⟨ep, he⟩ := PyProof.Rows.sortedHeap_at (vs := us) (out := List.toArray out) ho
  refine ⟨.ref s.heap.objs.size, upd H s.heap.objs.size (.lst ((srt xs).map V.str)), ?_, rfl, q _ (I.hok.fresh (Nat.le_refl _))⟩
  refine I.laid (t' := s.toks) (fun b u hb => ?_) (Nat.le_refl _) ⟨by rw [List.length_map, srt_length]; exact hl, out, ep, vals_each eo, he⟩
  have hlt := Heap.lt_size hb
  rw [PyProof.Rows.sortedHeap_old (Nat.ne_of_lt hlt) (by rw [Heap.size_push]; exact Nat.lt_succ_of_lt hlt)]
  exact Heap.get?_push_of_some _ hb

/-- sorted(text) -/
def rSortTxt : List V → Hp → VK → Prop := fun vs H Q => ∃ z : Str, vs = [.str z] ∧ z.length ≤ sizeLine ∧ ∀ p, H p = none → Q (.ref p) (upd H p (.lst ((srt (chs z)).map V.str)))
theorem items_vals {z : Str} {acc : Array Value} (h : ItemsOf (SignAt z) acc z.cps.size) : Vals ((chs z).map V.str) acc.toList := by
  refine vals_each (each_get ?_ fun i v hv => ?_)
  · rw [Array.length_toList, h.1]
    simp [chs]
  · obtain ⟨c, u, hc, rfl⟩ := h.2 i v (by rw [← Array.getElem?_toList]; exact hv)
    refine ⟨one c, ?_, u, rfl⟩
    unfold chs
    rw [List.getElem?_map, Array.getElem?_toList, hc]
    rfl
theorem cr_sortTxt (hc : X.calm = true) (hu : X.A.units + 4 < cLine) : CallR X (.builtin "sorted") rSortTxt := by
  intro pins s σ H vs us Q I r h
  obtain ⟨z, rfl, hz, q⟩ := h
  obtain ⟨u1, rfl, ⟨t, rfl⟩⟩ := vals1 r
  refine call_function_entry kind_sorted plain_sorted entry_sorted (args_sorted1 _) ?_
  unfold Builtin.«sorted»
  refine wpAny_bind (m := checkCount "sorted" 1 1 _) (wpAny_pure ?_)
  refine wpAny_bind (wpAny_collect_str (A := X.A.in1) (hn := hz) (I.ok.hd hc) z t fun s' acc hk hg hd ho hacc => ?_)
  obtain ⟨h', g', d', t', o'⟩ := s'
  have eg : g' = s.gens := hg
  have ed : d' = s.drawn := hd
  have eo : o' = s.os := ho
  subst eg ed eo
  have I1 : Inv X pins σ H { s with heap := h', toks := t' } := I.kept (t' := t') hk
  have rv := items_vals hacc
  refine wpAny_bind (wpAny_newList ?_ (by rw [Array.length_toList, hacc.1]; exact hz))
  have key := sort_texts (A := X.A.in1) (E := X.xe) (Q := Q) (by show X.A.units + 1 + 2 < cLine; omega) I1 rv (by show (chs z).length ≤ _; unfold chs; rw [List.length_map, Array.length_toList]; exact hz) rfl q
  refine wpAny_bind (wpAny_holding (wpAny_mono key (fun _ s' x => ?_) fun _ _ e => e))
  exact wpAny_pure ⟨_, rfl, x⟩
/-- sorted(list of texts), any length -/
def rSortL (K : PySem.W.Frag) : List V → Hp → VK → Prop := fun vs H Q => ∃ (a : Addr) (xs : List Str), vs = [.ref a] ∧ SqL K H a (xs.map V.str) ∧ ∀ p, H p = none → Q (.ref p) (upd H p (.lst ((srt xs).map V.str)))
theorem cr_sortL (hu : X.A.units + 4 < cLine) : CallR X (.builtin "sorted") (rSortL X.K) := by
  intro pins s σ H vs us Q I r h
  obtain ⟨a, xs, rfl, hs, q⟩ := h
  obtain ⟨its, rv, hl, hz⟩ := I.list hs
  rw [List.length_map] at hz
  rw [Vals.ref1 r]
  have e := each_vals rv
  refine sorted_data (R := fun v b => ∃ t, v = Value.str b t) (enc := PyData.str) hl.isList e (e.mono fun v b ⟨t, ev⟩ => ⟨[], by rw [ev]; exact .str _ _⟩) (alike_strs xs) (sortable_strs xs) hz
    (fun b hb => by show X.A.units + 2 + 0 < cLine; omega) fun out ho' eo => ?_
  rw [merge_leS] at eo
  obtain ⟨ep, he'⟩ := PyProof.Rows.sortedAll_at s.heap its (List.toArray out)
  have hlen : ((srt xs).map V.str).length ≤ sizeLine := by rw [List.length_map, srt_length]; exact hz
  exact ⟨.ref _, upd H (s.heap.objs.size + 1) (.lst ((srt xs).map V.str)), I.laid (t' := s.toks) (fun _ _ => PyProof.Rows.sortedAll_old) (Nat.le_succ _) ⟨hlen, out, ep, vals_each eo, he'⟩, rfl, q _ (I.hok.fresh (Nat.le_succ _))⟩

/-- list(text) -/
def rListTxt : List V → Hp → VK → Prop := fun vs H Q => ∃ z : Str, vs = [.str z] ∧ z.length ≤ sizeLine ∧ ∀ p, H p = none → Q (.ref p) (upd H p (.lst ((chs z).map V.str)))
theorem cr_listTxt (hc : X.calm = true) : CallR X (.type "list") rListTxt := by
  intro pins s σ H vs us Q I r h
  obtain ⟨z, rfl, hz, q⟩ := h
  obtain ⟨u1, rfl, ⟨t, rfl⟩⟩ := vals1 r
  refine call_list_str (hn := hz) (I.ok.hd hc) z t fun h' tk acc c hk hS hacc => ?_
  have rv := items_vals hacc
  refine ⟨.ref s.heap.objs.size, upd H s.heap.objs.size (.lst ((chs z).map V.str)), I.laid (t' := tk) hk (Nat.le_refl _) ⟨?_, acc.toList, c, rv, ?_⟩, rfl, q _ (I.hok.fresh (Nat.le_refl _))⟩
  · rw [List.length_map]
    unfold chs
    rw [List.length_map, Array.length_toList]
    exact hz
  · rw [hS]

/-! ### views of a dict with text keys -/
def valuesO (p d : Addr) : HO := .ext fun h => h.IsValuesView p d
theorem valuesO_ok {P : Program} {w : World} {H : Hp} {h : Heap} {p d : Addr} (e : h.get? p = some { cls := .type "dict_values", data := .fields #[.ref d] }) : ObjOk P w H h p (valuesO p d) :=
  ⟨⟨_, e, rfl, rfl⟩, ⟨_, e⟩, fun h1 h2 x k => let ⟨o, ho, r⟩ := x; ⟨o, k o ho, r⟩⟩
def rValsK : V → List V → Hp → VK → Prop := fun x xs H Q => ∃ (a : Addr) (kvs : List (L2.Key × V)), x = .ref a ∧ xs = [] ∧ H a = some (.dK kvs) ∧ ∀ p, H p = none → Q (.ref p) (upd H p (valuesO p a))
theorem raw_dK {P : Program} {w : World} {H : Hp} {h : Heap} {a : Addr} {kvs : List (L2.Key × V)} (ok : HOk P w H h) (e : H a = some (.dK kvs)) :
    kvs.length ≤ sizeLine ∧ (a == sysModules) = false ∧ ∃ es ep, h.DictRaw a es ep ∧ es.size = kvs.length ∧ ∀ (i : Nat) (hi : i < es.size), ∃ k v, kvs[i]? = some (k, v) ∧ keyIs k es[i].key = true ∧ RelV v es[i].val := by
  obtain ⟨z, hd, vs, kv, dd⟩ := dk_of ok e
  obtain ⟨es, ep, hr, hsz, hent⟩ := dd.raw
  have hl : kvs.length = vs.length := Paired.length kv
  refine ⟨z, hd, es, ep, hr, by omega, fun i hi => ?_⟩
  have hi' : i < kvs.length := by omega
  obtain ⟨⟨k, v⟩, hkv⟩ : ∃ p, kvs[i]? = some p := ⟨kvs[i], List.getElem?_eq_getElem hi'⟩
  obtain ⟨u, hu, ru⟩ := kv_get kv hkv
  obtain ⟨h1, h2⟩ := hent i hi k u hu
  exact ⟨k, v, hkv, h1, by rw [h2]; exact ru⟩
theorem mt_valuesK : MtR X "dict.values" rValsK := by
  intro pins s σ H x xs v us Q I rx rxs h
  obtain ⟨a, kvs, rfl, rfl, ha, q⟩ := h
  cases rx
  cases rxs
  obtain ⟨z, hd, es, ep, hr, _⟩ := raw_dK I.hok ha
  refine call_meetsIn F.slot_dict_values hr.typeIs F.entry_dict_values (F.args_dict_values_1 _) (meets_dict_values_raw a hd) ⟨⟨es, ep, hr⟩, ?_⟩
  have hf : H s.heap.objs.size = none := I.hok.fresh (Nat.le_refl _)
  exact ⟨.ref s.heap.objs.size, upd H s.heap.objs.size (valuesO s.heap.objs.size a), I.laid (t' := s.toks) (fun b u e => Heap.get?_push_of_some _ e) (Nat.le_refl _) (valuesO_ok (Heap.get?_push_size _ rfl)), rfl, q _ hf⟩
def rItemsK : V → List V → Hp → VK → Prop := fun x xs H Q => ∃ (a : Addr) (kvs : List (L2.Key × V)), x = .ref a ∧ xs = [] ∧ H a = some (.dK kvs) ∧ ∀ p, H p = none → Q (.ref p) (upd H p (DX.itemsO p a))
theorem mt_itemsK : MtR X "dict.items" rItemsK := by
  intro pins s σ H x xs v us Q I rx rxs h
  obtain ⟨a, kvs, rfl, rfl, ha, q⟩ := h
  cases rx
  cases rxs
  obtain ⟨z, hd, es, ep, hr, _⟩ := raw_dK I.hok ha
  refine call_meetsIn F.slot_dict_items hr.typeIs F.entry_dict_items (F.args_dict_items_1 _) (meets_dict_items_raw a hd) ⟨⟨es, ep, hr⟩, ?_⟩
  have hf : H s.heap.objs.size = none := I.hok.fresh (Nat.le_refl _)
  exact ⟨.ref s.heap.objs.size, upd H s.heap.objs.size (DX.itemsO s.heap.objs.size a), I.laid (t' := s.toks) (fun b u e => Heap.get?_push_of_some _ e) (Nat.le_refl _) (DX.itemsO_ok (Heap.get?_push_size _ rfl)), rfl, q _ hf⟩

/-- sum(d.values()), the values ints -/
def entI (e : Str × Int) : L2.Key × V := (.inr e.1, .int e.2)
def rSumVals : List V → Hp → VK → Prop := fun vs H Q => ∃ (p a : Addr) (ks : List (Str × Int)), vs = [.ref p] ∧ H p = some (valuesO p a) ∧ H a = some (.dK (ks.map entI)) ∧ ∀ n : Int, Q (.int n) H
theorem cr_sumVals (hc : X.calm = true) : CallR X (.builtin "sum") rSumVals := by
  intro pins s σ H vs us Q I r h
  obtain ⟨p, a, ks, rfl, hp, ha, q⟩ := h
  obtain rfl := Vals.ref1 r
  have view : s.heap.IsValuesView p a := (show ObjOk X.prog X.w H s.heap p (valuesO p a) from I.hok p _ hp).1
  obtain ⟨z, hd, es, ep, hr, hsz, hent⟩ := raw_dK I.hok ha
  have hh : X.A.in1.handled = none := I.ok.hd hc
  have hlt : a < s.heap.objs.size := let ⟨_, ho, _⟩ := hr; Heap.lt_size ho
  refine call_sum_walkAnyS (wpAny_pyIter_values_raw view hr ?_)
  have W := Walks.rawValues (prog := X.prog) (w := X.w) (A := X.A.in1) hh s.heap.objs.size a (Nat.ne_of_lt hlt) es ep
  refine ⟨s.heap.objs.size, _, _, _, es.size, _, _, fun j => (ks[j]?.map (·.2)).getD 0, rfl, W.toS, ⟨⟨_, Heap.get?_push_size _ rfl, rfl, rfl⟩, hr.at fun _ e => Heap.get?_push_of_some _ e⟩, fun b hb => ?_, fun i v hv => ?_, fun s' t' hm => ?_⟩
  · rw [Heap.size_push]
    rcases List.mem_cons.mp hb with e | hb
    · rw [e]; exact Nat.lt_succ_self _
    · rw [List.mem_singleton.mp hb]; exact Nat.lt_succ_of_lt hlt
  · obtain ⟨hi, rfl⟩ := hv
    obtain ⟨k, v, hkv, _, rv⟩ := hent i hi
    rw [List.getElem?_map] at hkv
    cases hk : ks[i]? with
    | none => rw [hk] at hkv; exact nomatch hkv
    | some e =>
      rw [hk] at hkv
      have e2 : entI e = (k, v) := Option.some.inj hkv
      obtain ⟨rfl, rfl⟩ := Prod.mk.inj e2
      obtain ⟨t, et⟩ := rv
      exact ⟨t, by simp only [hk]; exact et⟩
  · have hk : ∀ b o, s.heap.get? b = some o → s'.heap.get? b = some o := fun b o e =>
      hm.heap b o (fun hI => absurd (Heap.lt_size e) (by rw [List.mem_singleton.mp hI]; exact Nat.lt_irrefl _)) (Heap.get?_push_of_some _ e)
    rw [Moved.eq_with hm]
    exact ⟨.int _, H, I.kept (t' := s'.toks) hk, ⟨t', rfl⟩, q _⟩

/-- sorted(d.items()), keys texts, values ints: a new list of new pairs, in some order -/
def rSortItems : List V → Hp → VK → Prop := fun vs H Q => ∃ (p a : Addr) (ks : List (Str × Int)), vs = [.ref p] ∧ H p = some (DX.itemsO p a) ∧ H a = some (.dK (ks.map entI)) ∧
  ∀ (H' : Hp) (l : Addr) (zs : List (Addr × Str × Int)), Same H H' → (zs.map (·.2)).Perm ks → H l = none → H' l = some (.lst (zs.map fun z => V.ref z.1)) → (∀ z ∈ zs, H' z.1 = some (.tup [.str z.2.1, .int z.2.2])) → Q (.ref l) H'
theorem each_zip {α β : Type} {R : α → β → Prop} : ∀ {as : List α} {bs : List β}, EachIs R as bs → ∃ zs : List (α × β), zs.map (·.1) = as ∧ zs.map (·.2) = bs ∧ ∀ z ∈ zs, R z.1 z.2
  | _, _, .nil => ⟨[], rfl, rfl, fun _ h => nomatch h⟩
  | _, _, .cons (a := a) (b := b) r t => by
    obtain ⟨zs, h1, h2, h3⟩ := each_zip t
    refine ⟨(a, b) :: zs, by simp [h1], by simp [h2], fun z hz => ?_⟩
    rcases List.mem_cons.mp hz with e | hz
    · rw [e]; exact r
    · exact h3 z hz
theorem alike_pairs (xs : List (Addr × Str × Int)) : AllAlike (xs.map fun z => PyData.tuple [.str z.2.1, .int z.2.2]) := AllAlike.of (enc := fun z : Addr × Str × Int => PyData.tuple [.str z.2.1, .int z.2.2]) (bs := xs) fun b b' => by simp [alike, alikeAll]
theorem sortable_pairs (xs : List (Addr × Str × Int)) : PySem.W.Sortable (xs.map fun z => PyData.tuple [.str z.2.1, .int z.2.2]) := PySem.W.Sortable.tuples (enc := fun z : Addr × Str × Int => PyData.tuple [.str z.2.1, .int z.2.2]) (bs := xs) fun b => ⟨_, _, rfl⟩
theorem cr_sortItems (hc : X.calm = true) (hu : X.A.units + 8 < cLine) : CallR X (.builtin "sorted") rSortItems := by
  intro pins s σ H vs us Q I r h
  obtain ⟨p, a, ks, rfl, hp, ha, q⟩ := h
  obtain rfl := Vals.ref1 r
  have view : s.heap.IsItemsView p a := (show ObjOk X.prog X.w H s.heap p (DX.itemsO p a) from I.hok p _ hp).1
  obtain ⟨z, hd, es, ep, hr, hsz, hent⟩ := raw_dK I.hok ha
  rw [List.length_map] at hsz z
  have hh : X.A.handled = none := I.ok.hd hc
  refine DT.sortedI (es := es) (ep := ep) hh view hr (by rw [hsz]; exact z) fun h' tk as hk hlt hl hG => ?_
  have lak : as.length = ks.length := by omega
  have nd : as.Nodup := List.Pairwise.imp (fun h => Nat.ne_of_lt h) hG.rise
  -- the pairs that were made
  have pr : ∀ (j : Nat) (b : Addr), as[j]? = some b → ∃ (e : Str × Int) (t u : Tok), ks[j]? = some e ∧ h'.get? b = some { cls := .type "tuple", data := .seq #[Value.str e.1 t, Value.int e.2 u] } := by
    intro j b hj
    obtain ⟨en, he, hg⟩ := hG.pairs j b hj
    obtain ⟨hi, ei⟩ := Array.getElem?_eq_some_iff.mp he
    obtain ⟨k, v, hkv, kk, rv⟩ := hent j hi
    rw [List.getElem?_map] at hkv
    cases hkj : ks[j]? with
    | none => rw [hkj] at hkv; exact nomatch hkv
    | some e =>
      rw [hkj] at hkv
      have e2 : entI e = (k, v) := Option.some.inj hkv
      obtain ⟨rfl, rfl⟩ := Prod.mk.inj e2
      obtain ⟨u, eu⟩ := rv
      rcases keyIs_shape kk with ⟨i0, t, q1, _⟩ | ⟨x, t, q1, q2⟩
      · exact nomatch q1
      · have ex : e.1 = x := Sum.inr.inj q1
        subst ex
        refine ⟨e, t, u, rfl, ?_⟩
        rw [hg, ← ei, q2, eu]
  have hob : (h'.push { cls := .type "list", data := .seq (as.map Value.ref).toArray }).get? h'.objs.size = some (seqObj "list" (as.map Value.ref).toArray 0) := Heap.get?_push_size _ rfl
  have ka : ∀ b o, h'.get? b = some o → (h'.push { cls := .type "list", data := .seq (as.map Value.ref).toArray }).get? b = some o := fun b o e => Heap.get?_push_of_some _ e
  have ne0 : ∀ b o, h'.get? b = some o → b ≠ h'.objs.size := fun b o e => Nat.ne_of_lt (Heap.lt_size e)
  generalize hh2 : h'.push { cls := .type "list", data := .seq (as.map Value.ref).toArray } = h2 at hob ka ⊢
  -- the items as data
  have hz : (as.zip ks).length = as.length := by rw [List.length_zip, lak, Nat.min_self]
  have e : EachIs (fun v (b : Addr × Str × Int) => v = Value.ref b.1 ∧ b ∈ as.zip ks) (as.map Value.ref) (as.zip ks) := by
    refine each_get (by rw [List.length_map, hz]) fun i v hv => ?_
    rw [List.getElem?_map] at hv
    cases hb : as[i]? with
    | none => rw [hb] at hv; exact nomatch hv
    | some b =>
      rw [hb] at hv
      have ev : Value.ref b = v := Option.some.inj hv
      obtain ⟨e, t, u, he, _⟩ := pr i b hb
      have hzi : (as.zip ks)[i]? = some (b, e) := List.getElem?_zip_eq_some.mpr ⟨hb, he⟩
      exact ⟨(b, e), hzi, ev.symm, List.mem_of_getElem? hzi⟩
  have at_ : ∀ b : Addr × Str × Int, b ∈ as.zip ks → ∃ (j : Nat) (t u : Tok), as[j]? = some b.1 ∧ ks[j]? = some b.2 ∧ h'.get? b.1 = some { cls := .type "tuple", data := .seq #[Value.str b.2.1 t, Value.int b.2.2 u] } := by
    intro b hb
    obtain ⟨j, hj⟩ := List.mem_iff_getElem?.mp hb
    obtain ⟨h1, h2⟩ := List.getElem?_zip_eq_some.mp hj
    obtain ⟨e, t, u, he, hg⟩ := pr j b.1 h1
    have ee : e = b.2 := Option.some.inj (he.symm.trans h2)
    subst ee
    exact ⟨j, t, u, h1, h2, hg⟩
  have er : EachIs (fun v (b : Addr × Str × Int) => ∃ bs, Reads h2 v (PyData.tuple [.str b.2.1, .int b.2.2]) bs ∧ h'.objs.size ∉ bs) (as.map Value.ref) (as.zip ks) := by
    refine e.mono fun v b hvb => ?_
    obtain ⟨ev, hb⟩ := hvb
    obtain ⟨j, t, u, _, _, hg⟩ := at_ b hb
    refine ⟨[], ?_, by simp⟩
    rw [ev]
    exact .tuple (ka _ _ hg) rfl rfl (.cons (as := []) (bs := []) (.str _ _) (.cons (as := []) (bs := []) (.int _ _) .nil))
  refine list_sort_data (s := { s with heap := h2, toks := tk }) (R := fun v (b : Addr × Str × Int) => v = Value.ref b.1 ∧ b ∈ as.zip ks) (enc := fun z : Addr × Str × Int => PyData.tuple [.str z.2.1, .int z.2.2]) hob e
    er (alike_pairs _) (sortable_pairs _) (by rw [hz, lak]; exact z) (fun b hb => by show X.A.units + 1 + 1 + PyData.depth (PyData.tuple [.str b.2.1, .int b.2.2]) < cLine; simp [PyData.depth, PyData.depthAll]; omega) fun out ho' eo => ?_
  · show EP X pins σ Q (.ref h'.objs.size) { s with heap := sortedHeap h2 h'.objs.size (as.map Value.ref) (List.toArray out), toks := tk }
    obtain ⟨zz, z1, z2, z3⟩ := each_zip eo
    have kF : ∀ b o, b ≠ h'.objs.size → h2.get? b = some o → (sortedHeap h2 h'.objs.size (as.map Value.ref) (List.toArray out)).get? b = some o := fun b o hb e => (PyProof.Rows.sortedHeap_old hb (Heap.lt_size e)).trans e
    have kS : ∀ b o, s.heap.get? b = some o → (sortedHeap h2 h'.objs.size (as.map Value.ref) (List.toArray out)).get? b = some o := fun b o e => kF b o (ne0 _ _ (hk b o e)) (ka b o (hk b o e))
    obtain ⟨eF, heF⟩ := PyProof.Rows.sortedHeap_at (vs := as.map Value.ref) (out := List.toArray out) hob
    have I1 : Inv X pins σ H { s with heap := sortedHeap h2 h'.objs.size (as.map Value.ref) (List.toArray out), toks := tk } := I.kept (t' := tk) kS
    have hn0 : H h'.objs.size = none := I.hok.fresh (Nat.le_of_lt hlt)
    have zsP : (zz.map (·.2)).Perm (as.zip ks) := by rw [z2]; exact List.mergeSort_perm _ _
    have hlen : ((zz.map (·.2)).map fun z : Addr × Str × Int => V.ref z.1).length ≤ sizeLine := by
      rw [List.length_map, zsP.length_eq, hz, lak]
      exact z
    have rv : Vals ((zz.map (·.2)).map fun z : Addr × Str × Int => V.ref z.1) out := by
      rw [← z1, List.map_map]
      exact vals_maps (fun z : Value × Addr × Str × Int => V.ref z.2.1) (fun z => z.1) zz fun b hb => (z3 b hb).1
    have I2 : Inv X pins σ (upd H h'.objs.size (.lst ((zz.map (·.2)).map fun z : Addr × Str × Int => V.ref z.1))) { s with heap := sortedHeap h2 h'.objs.size (as.map Value.ref) (List.toArray out), toks := tk } :=
      I1.take (h' := sortedHeap h2 h'.objs.size (as.map Value.ref) (List.toArray out)) (t' := tk) (fun b ob _ e => e) (I.fpOk (Nat.le_of_lt hlt) hn0) ⟨hlen, out, eF, rv, heF⟩
    obtain ⟨H2, I3, g, qt⟩ := DX.takeT (P := fun b vs => ∃ (j : Nat) (e : Str × Int), as[j]? = some b ∧ ks[j]? = some e ∧ vs = [.str e.1, .int e.2]) I as _ I2 nd fun b hb => by
      obtain ⟨j, hj⟩ := List.mem_iff_getElem?.mp hb
      obtain ⟨e, t, u, he, hg⟩ := pr j b hj
      have hbl : s.heap.objs.size ≤ b := Nat.le_of_lt (hG.above b hb)
      refine ⟨hbl, ?_, [.str e.1, .int e.2], ⟨j, e, hj, he, rfl⟩, fun H3 => ⟨(by rw [sizeLine_eq]; show 2 ≤ 16777216; omega), [Value.str e.1 t, Value.int e.2 u], .cons ⟨_, rfl⟩ (.cons ⟨_, rfl⟩ .nil), ⟨_, kF _ _ (ne0 _ _ hg) (ka _ _ hg), rfl, 0, rfl⟩⟩⟩
      rw [upd_ne (ne0 _ _ hg)]
      exact I.hok.fresh hbl
    have gr : ∀ b o, H b = some o → H2 b = some o := fun b o e => g b o (by rw [upd_ne (ne_of_none e hn0)]; exact e)
    refine ⟨.ref h'.objs.size, H2, I3, rfl, q H2 h'.objs.size (zz.map (·.2)) gr ?_ hn0 (g _ _ upd_same) fun z' hz' => ?_⟩
    · have e := zsP.map (·.2)
      have m2 : (as.zip ks).map (·.2) = ks := List.map_snd_zip (by rw [lak]; exact Nat.le_refl _)
      rw [m2] at e
      exact e
    · obtain ⟨j0, t, u, h1, h2', _⟩ := at_ z' (zsP.mem_iff.mp hz')
      obtain ⟨vs, ⟨j, e, j1, j2, ev⟩, hH⟩ := qt z'.1 (List.mem_of_getElem? h1)
      have eij : j0 = j := (List.getElem?_inj (List.getElem?_eq_some_iff.mp h1).1 nd).mp (h1.trans j1.symm)
      subst eij
      have ee : e = z'.2 := Option.some.inj (j2.symm.trans h2')
      rw [ev, ee] at hH
      exact hH

/-! ### d.get(k, x) of a written dict with text keys -/
def tKGet2 (K : PySem.W.Frag) (w : World) (td ty tx : TE) : TE := fun σ H Q => td σ H fun x H1 => ∃ d, x = .ref d ∧ (∃ es n, K.lookup d = some ⟨.type "dict", none, .dict es n, #[]⟩) ∧ ty σ H1 fun y H2 => tx σ H2 fun z H3 =>
  ∃ k v, y = .str k ∧ (d == sysModules) = false ∧ KDct K w d k v ∧ Q v H3
variable {o e f : Expr} {apos cpos : Pos} {td ty tx : TE}
theorem pe_kget2 (ho : PE X o td) (he : PE X e ty) (hf : PE X f tx) (m : M2 X o "get" apos e f cpos) : PE X (.Call (.Attribute o "get" apos) [e, f] [] cpos) (tKGet2 X.K X.w td ty tx) := by
  refine ⟨fun pins s σ H Q I h => ?_⟩
  refine wpAny_Call_method m.base m.few m.line PySem.F.plainAttrs_dict PySem.F.slot_dict_get PySem.F.type_dict_get (thn (ho.run pins s σ H _ I h) fun u s1 ⟨x, H1, I1, rx, d, ex, ⟨es, n, hl⟩, q1⟩ => ?_)
  subst ex
  obtain rfl : u = Value.ref d := rx
  have hgt := I1.kIn d _ hl
  refine ⟨⟨_, hgt, rfl⟩, fun b q => by injection q with q; subst q; exact ⟨_, hgt, rfl⟩, ?_⟩
  rw [m.trees]
  refine Calls.callWith_builtin rfl (Calls.evalArgs_plain (Calls.spliced_cons (thn (he.run pins s1 σ H1 _ I1 q1) fun iv s2 ⟨y, H2, I2, ry, q2⟩ =>
    Calls.spliced_cons (thn (hf.run pins s2 σ H2 _ I2 q2) fun fv s3 ⟨z, H3, I3, rz, k, v, ey, hlow, kd, q3⟩ => Calls.spliced_nil ?_))))
  subst ey
  obtain ⟨t, rfl⟩ := ry
  obtain ⟨es', n', u0, hl', hk, e', ru⟩ := kd
  have hm := PySem.W.mapOf_K (prog := X.prog) (w := X.w) I3.kIn hl' hk
  refine call_meetsIn F.slot_dict_get hm.typeIs F.entry_dict_get (F.args_dict_get_3 _ _ _) (meets_dict_get_default (PySem.strKind X.prog X.w) d (k := k) (strKind_is X.prog X.w k t) hlow fv) ⟨_, hm, ?_⟩
  show EP X pins σ Q ((findBy Value.isStrOf es' k).getD fv) _
  rw [PySem.W.find_K hl' e']
  exact ⟨v, H3, I3.tok _, ru, q3⟩
end
end FarR
end

section
set_option linter.all false
set_option maxRecDepth 100000
set_option maxHeartbeats 4000000
/-! The text by places, the facts of the top, calls in short, what stands in the heap. -/
namespace Far
open PySem PySem.Spec PyProof.Rows L2 FarN FarR

/-! ### the text by places -/
def top (i : Nat) : Stmt := PySem.Challenge.pw_farline_k47_whole_what_lines_can_be.main.body.getD i (.Pass ⟨0, 0, 0, 0⟩)
abbrev sIsSign : Stmt := top 9
abbrev sIsPlace : Stmt := top 10
abbrev sIsDeed : Stmt := top 11
abbrev sCan : Stmt := top 12
abbrev sDone : Stmt := top 13
abbrev sMoved : Stmt := top 15
abbrev sMark : Stmt := top 17
abbrev sMovedB : Stmt := top 19
abbrev sRowsM : Stmt := top 20
abbrev sIsWhole : Stmt := top 22
abbrev sIsLetter : Stmt := top 23
abbrev sSeatInit : Stmt := inClass (top 24) 0
abbrev sMakeIn : Stmt := inClass (top 24) 1
abbrev sTakeIn : Stmt := inClass (top 24) 2
abbrev sPast : Stmt := inClass (top 24) 3
abbrev sShown : Stmt := inClass (top 24) 4
abbrev sIsSeat : Stmt := top 26
abbrev sNeed : Stmt := top 27
abbrev sChosen : Stmt := top 28
abbrev sYardInit : Stmt := inClass (top 29) 0
abbrev sMakeAt : Stmt := inClass (top 29) 1
abbrev sComeTo : Stmt := inClass (top 29) 2
abbrev sShownAt : Stmt := inClass (top 29) 3
abbrev sChoose : Stmt := inClass (top 29) 7
abbrev sOpen : Stmt := top 31
abbrev sKeyB : Stmt := top 32
abbrev sGrown : Stmt := top 33
abbrev sLineB : Stmt := top 34
abbrev sRuns : Stmt := top 35
abbrev sMixed : Stmt := top 37
abbrev sPot : Stmt := top 38
abbrev sTake : Stmt := top 39
abbrev sLSign : Stmt := top 40
abbrev sPlans : Stmt := top 41
abbrev sShort : Stmt := top 42
abbrev sHolds : Stmt := top 43
abbrev sAlone : Stmt := top 44
abbrev sLawOf : Stmt := top 45
abbrev sPuts : Stmt := top 46
abbrev sCuts : Stmt := top 47
abbrev sBoth : Stmt := top 48
abbrev sLaw : Stmt := top 49

/-! ### the top's facts -/
def signs : Str := "abcdefghijklmnopqrstuvwxyz "
structure Txt (K : PySem.W.Frag) (w : World) (mg : Str → Option Value) (CS CY PA : Addr) : Prop where
  isi : mg "isinstance" = none
  int : mg "int" = none
  str : mg "str" = none
  bool : mg "bool" = none
  tuple : mg "tuple" = none
  len : mg "len" = none
  range : mg "range" = none
  list : mg "list" = none
  sorted : mg "sorted" = none
  sum : mg "sum" = none
  max : mg "max" = none
  min : mg "min" = none
  enum : mg "enumerate" = none
  sg : ∃ t, mg "SIGNS" = some (.str signs t)
  parts : mg "PARTS" = some (.ref PA)
  plow : (PA == sysModules) = false
  plk : ∃ es n, K.lookup PA = some ⟨.type "dict", none, .dict es n, #[]⟩
  pput : KDct K w PA "put" (.int 3)
  pcut : KDct K w PA "cut" (.int 2)
  pnon : KDct K w PA "none" (.int 1)
  clS : Cls K CS
  clY : Cls K CY
  mgS : mg "Seat" = some (.ref CS)
  mgY : mg "Yard" = some (.ref CY)
  nAhead : NoAttr K CS "ahead"
  nText : NoAttr K CS "text"
  nMade : NoAttr K CS "many_made"
  nTaken : NoAttr K CS "many_taken"
  nHeard : NoAttr K CS "heard"
  nWaiting : NoAttr K CS "waiting"
  nOwn : NoAttr K CS "own_mark"
  nFar : NoAttr K CS "far_mark"
  nSeats : NoAttr K CY "seats"
  nRoads : NoAttr K CY "roads"

/-! ### calls in short -/
/-- a def of the top, with its promise -/
def FnG (P : Program) (w : World) (K : PySem.W.Frag) (mg : Str → Option Value) (base : Heap) (k : Nat) (x : Str) (ps : List Str) (sp : Sp) : Prop :=
  ∃ (f : Addr) (fd : FuncData), FnOk P w K mg base CX0 k f fd ps sp ∧ mg x = some (.ref f) ∧ PySem.W.keepIn K (.ref f) = true ∧ Binds K fd ps []
/-- a method of the class at C -/
def MtG (P : Program) (w : World) (K : PySem.W.Frag) (mg : Str → Option Value) (base : Heap) (C : Addr) (k : Nat) (m : Str) (ps : List Str) (sp : Sp) : Prop :=
  ∃ (f : Addr) (fd : FuncData), FnOk P w K mg base CX0 k f fd ps sp ∧ Meth K C m f ∧ Binds K fd ps []
/-- the class at C made by its __init__ -/
def MkG (P : Program) (w : World) (K : PySem.W.Frag) (mg : Str → Option Value) (base : Heap) (C : Addr) (k : Nat) (ps : List Str) (sp : Sp) : Prop :=
  ∃ (f : Addr) (fd : FuncData), FnOk P w K mg base CX0 k f fd ps sp ∧ Mk K C f ∧ Binds K fd ps []
section
variable {X : Cx} {k j : Nat} {C : Addr} {ps : List Str} {sp : Sp} {x m : Str} {p pos apos : Pos} {e o : Expr} {es : List Expr} {ta : TE} {t : TA}
theorem pcall (G : FnG X.prog X.w X.K X.mg X.base k x ps sp) (hr : Room j X.A) (hk : k ≤ j) (hg : Gl X x) (ha : PA X (e :: es) t) (hdb : (x == ("__debug__" : Str)) = false := by decide)
    (he : starEach (e :: es) X.env = (false, eval e X.env) :: starEach es X.env := by rfl) (hpl : (backTo pos (starEach es X.env)).any (·.1) = false := by rfl) :
    PE X (.Call (.Name x p) (e :: es) [] pos) (tCall sp [] E0 t) := by
  obtain ⟨f, fd, F, hm, kp, hb⟩ := G
  exact pe_call F (hr.mono hk) hg hm kp hb .nil pass0 ha hdb he hpl
theorem pmeth {pl : Sem Bool} (G : MtG X.prog X.w X.K X.mg X.base C k m ps sp) (c : Cls X.K C) (hr : Room j X.A) (hk : k ≤ j) (ho : PE X o ta) (ha : PA X (e :: es) t)
    (hst : starEach (e :: es) X.env = (false, eval e X.env) :: starEach es X.env := by rfl) (hpl : (backTo pos (starEach es X.env)).any (·.1) = false := by rfl)
    (ht : eval (.Call (.Attribute o m apos) (e :: es) [] pos) X.env = (do
      let ov ← eval o X.env
      standAt apos.atName
      let (f, first) ← holding [ov] (getMethod ov m pl)
      callWith pos f first (backTo pos (starEach (e :: es) X.env)) (backToKw pos (keywordEach [] X.env))) := by rfl) :
    PE X (.Call (.Attribute o m apos) (e :: es) [] pos) (tMeth C m sp [] E0 ta t) := by
  obtain ⟨f, fd, F, hm, hb⟩ := G
  exact pe_meth ho c hm F (hr.mono hk) hb .nil pass0 ha hst hpl ht
theorem pmeth0 {pl : Sem Bool} (G : MtG X.prog X.w X.K X.mg X.base C k m ps sp) (c : Cls X.K C) (hr : Room j X.A) (hk : k ≤ j) (ho : PE X o ta)
    (ht : eval (.Call (.Attribute o m apos) [] [] pos) X.env = (do
      let ov ← eval o X.env
      standAt apos.atName
      let (f, first) ← holding [ov] (getMethod ov m pl)
      callWith pos f first (backTo pos (starEach [] X.env)) (backToKw pos (keywordEach [] X.env))) := by rfl) :
    PE X (.Call (.Attribute o m apos) [] [] pos) (tMeth C m sp [] E0 ta tNil) := by
  obtain ⟨f, fd, F, hm, hb⟩ := G
  exact pe_meth0 ho c hm F (hr.mono hk) hb .nil pass0 ht
theorem pmake (G : MkG X.prog X.w X.K X.mg X.base C k ps sp) (hr : Room j X.A) (hk : k + 1 ≤ j) (hg : Gl X x) (hm : X.mg x = some (.ref C)) (ha : PA X (e :: es) t) (hdb : (x == ("__debug__" : Str)) = false := by decide)
    (he : starEach (e :: es) X.env = (false, eval e X.env) :: starEach es X.env := by rfl) (hpl : (backTo pos (starEach es X.env)).any (·.1) = false := by rfl) :
    PE X (.Call (.Name x p) (e :: es) [] pos) (tMake C sp [] E0 t) := by
  obtain ⟨f, fd, F, M, hb⟩ := G
  exact pe_make M F (hr.mono hk) hg hm hb .nil pass0 ha hdb he hpl
/-- two lists of unlike lengths -/
theorem op_eqLen (hu : X.A.units + 1 < cLine) : OpR X (compareOp .Eq) (fun x y H Q => ∃ a b xs ys, x = .ref a ∧ y = .ref b ∧ SqL X.K H a xs ∧ SqL X.K H b ys ∧ xs.length ≠ ys.length ∧ Q (.bl false) H) := by
  intro pins s σ H x y v u Q I rx ry h
  obtain ⟨a, b, xs, ys, rfl, rfl, ha, hb, hne, q⟩ := h
  cases rx
  cases ry
  obtain ⟨its, r1, p1, _⟩ := I.list ha
  obtain ⟨its2, r2, p2, _⟩ := I.list hb
  have l1 := r1.length
  have l2 := r2.length
  refine SeqAt.eq_list_lengthsAt p1.isList p2.isList ?_ (by omega) ⟨.bl false, H, I, rfl, q⟩
  simp only [List.size_toArray, bne_iff_ne, ne_eq]
  omega
end

/-! ### lines, signs, deeds in the heap -/
def ln (l : List Nat) : Str := ⟨l.toArray⟩
theorem ln_length (l : List Nat) : (ln l).length = l.length := by simp [ln, Str.length]
theorem ln_cps (l : List Nat) : (ln l).cps.toList = l := by simp [ln]
theorem ln_inj {a b : List Nat} (h : ln a = ln b) : a = b := by
  have := congrArg (fun z : Str => z.cps.toList) h
  simpa [ln] using this
theorem ln_append (a b : List Nat) : ln a ++ ln b = ln (a ++ b) := by
  show Str.append (ln a) (ln b) = ln (a ++ b)
  simp [Str.append, ln]
theorem one_ln (c : Nat) : one c = ln [c] := rfl
theorem cut_to (l : List Nat) (p : Nat) : cutS (ln l) none (some (p : Int)) = ln (l.take p) := by
  unfold cutS
  rw [HT.sIx_none, HT.sIx_nat, ln_length, ln_cps]
  show ln _ = ln _
  rw [List.drop_zero, Nat.sub_zero]
  congr 1
  rcases Nat.le_total p l.length with h | h
  · rw [Nat.min_eq_left h]
  · rw [Nat.min_eq_right h, List.take_length, List.take_of_length_le h]
theorem cut_from (l : List Nat) (p : Nat) : cutS (ln l) (some (p : Int)) none = ln (l.drop p) := by
  unfold cutS
  rw [HT.sIx_none, HT.sIx_nat, ln_length, ln_cps]
  show ln _ = ln _
  congr 1
  rcases Nat.le_total p l.length with h | h
  · rw [Nat.min_eq_left h, List.take_of_length_le (by rw [List.length_drop]; exact Nat.le_refl _)]
  · rw [Nat.min_eq_right h, List.drop_length, List.take_nil, List.drop_eq_nil_of_le h]
def isSg (c : Nat) : Prop := c ∈ signs.cps.toList
def dv : Deed → List V
  | .put p c => [.str "put", .int (p : Nat), .str (one c)]
  | .cut p => [.str "cut", .int (p : Nat)]
  | .non => [.str "none"]
def sgOk : Deed → Prop
  | .put _ c => isSg c
  | _ => True
/-- the deed d stands at a -/
def DAt (H : Hp) (a : Addr) (d : Deed) : Prop := H a = some (.tup (dv d))
theorem DAt.same {H H' : Hp} {a : Addr} {d : Deed} (s : Same H H') (h : DAt H a d) : DAt H' a d := s _ _ h
theorem q_T {Q : VK} {H : Hp} {c : Prop} [Decidable c] (h : c) (q : Q (.bl true) H) : Q (.bl (decide c)) H := by
  rw [decide_eq_true h]
  exact q
theorem q_F {Q : VK} {H : Hp} {c : Prop} [Decidable c] (h : ¬ c) (q : Q (.bl false) H) : Q (.bl (decide c)) H := by
  rw [decide_eq_false h]
  exact q
theorem Same.new {H : Hp} {p : Addr} (o : HO) (h : H p = none) : Same H (upd H p o) := fun b u e => by
  rw [upd_ne (ne_of_none e h)]
  exact e
end Far
end

section
set_option linter.all false
set_option maxRecDepth 100000
set_option maxHeartbeats 4000000
namespace Far
open PySem PySem.Spec PyProof.Rows L2 FarN FarR
section
variable {P : Program} {w : World} {K : PySem.W.Frag} {mg : Str → Option Value} {base : Heap} {CS CY PA : Addr}

/-! ### is_sign(thing) of a sign -/
def spIsSign : Sp := fun vs H Q _ => ∃ c : Nat, vs = [.str (one c)] ∧ isSg c ∧ Q (.bl true) H
theorem scIsSign : FnScope ["thing"] ["thing"] (defScope sIsSign) := ⟨rfl, rfl, rfl, by decide +kernel, rfl, by decide +kernel, by decide +kernel⟩
theorem ok_is_sign {f : Addr} {fd : FuncData} (F : Fun K "is_sign" "is_sign" sIsSign f fd) (T : Txt K w mg CS CY PA) : FnOk P w K mg base CX0 1 f fd ["thing"] spIsSign := by
  refine F.ok scIsSign (fun vs H Q E h => ?_) (fun cdv A outer s H vs Q E hr h => ?_)
  · obtain ⟨c, rfl, _⟩ := h
    rfl
  · obtain ⟨c, rfl, hc, q⟩ := h
    obtain ⟨tg, hsg⟩ := T.sg
    refine ⟨_, pss_one (ps_ret (pe_and (pe_callB call_isi (by rfl) T.isi (by decide +kernel) (pa_cons (pv 0) (pa_cons (pe_bltn (v := .ty "str") (by rfl) T.str (by decide +kernel) rfl) pa_nil)))
      (pe_and (pe_cmpR op_eq (pe_callB call_len_str (by rfl) T.len PySem.boot_len (pa_cons (pv 0) pa_nil)) pe_int (nomark _)) (pe_one (pe_cmpR op_in_sign (pv 0) (pe_glob (v := .str signs) rfl hsg ⟨_, rfl⟩) (by rfl)))))), ?_⟩
    refine ⟨_, rfl, _, _, _, _, true, rfl, .ty _, .base (.str _), kit_ty (by decide +kernel), true, rfl, iteT ?_⟩
    refine ⟨_, rfl, _, rfl, (by show 1 ≤ sizeLine; decide), rfl, true, rfl, iteT ?_⟩
    refine ⟨_, rfl, c, signs, rfl, rfl, ?_⟩
    exact q_T (c := c ∈ signs.cps.toList) hc q

/-! ### is_place(thing) of a whole number from 0 on -/
def spIsPlace : Sp := fun vs H Q _ => ∃ n : Nat, vs = [.int (n : Int)] ∧ Q (.bl true) H
theorem scIsPlace : FnScope ["thing"] ["thing"] (defScope sIsPlace) := ⟨rfl, rfl, rfl, by decide +kernel, rfl, by decide +kernel, by decide +kernel⟩
theorem ok_is_place {f : Addr} {fd : FuncData} (F : Fun K "is_place" "is_place" sIsPlace f fd) (T : Txt K w mg CS CY PA) : FnOk P w K mg base CX0 1 f fd ["thing"] spIsPlace := by
  refine F.ok scIsPlace (fun vs H Q E h => ?_) (fun cdv A outer s H vs Q E hr h => ?_)
  · obtain ⟨c, rfl, _⟩ := h
    rfl
  · obtain ⟨n, rfl, q⟩ := h
    refine ⟨_, pss_one (ps_ret (pe_and (pe_callB call_isi (by rfl) T.isi (by decide +kernel) (pa_cons (pv 0) (pa_cons (pe_bltn (v := .ty "int") (by rfl) T.int (by decide +kernel) rfl) pa_nil)))
      (pe_and (pe_not (pe_callB call_isi (by rfl) T.isi (by decide +kernel) (pa_cons (pv 0) (pa_cons (pe_bltn (v := .ty "bool") (by rfl) T.bool (by decide +kernel) rfl) pa_nil))))
        (pe_one (pe_cmpR op_ge (pv 0) pe_int (nomark _)))))), ?_⟩
    refine ⟨_, rfl, _, _, _, _, true, rfl, .ty _, .base (.int _), kit_ty (by decide +kernel), true, rfl, iteT ?_⟩
    refine ⟨_, rfl, _, _, _, _, false, rfl, .ty _, .base (.int _), kit_ty (by decide +kernel), false, rfl, true, rfl, iteT ?_⟩
    refine ⟨_, rfl, _, _, rfl, rfl, ?_⟩
    exact q_T (c := (0 : Int) ≤ (n : Int)) (by omega) q
theorem scIsWhole : FnScope ["thing"] ["thing"] (defScope sIsWhole) := ⟨rfl, rfl, rfl, by decide +kernel, rfl, by decide +kernel, by decide +kernel⟩
theorem ok_is_whole {f : Addr} {fd : FuncData} (F : Fun K "is_whole" "is_whole" sIsWhole f fd) (T : Txt K w mg CS CY PA) : FnOk P w K mg base CX0 1 f fd ["thing"] spIsPlace := by
  refine F.ok scIsWhole (fun vs H Q E h => ?_) (fun cdv A outer s H vs Q E hr h => ?_)
  · obtain ⟨c, rfl, _⟩ := h
    rfl
  · obtain ⟨n, rfl, q⟩ := h
    refine ⟨_, pss_one (ps_ret (pe_and (pe_callB call_isi (by rfl) T.isi (by decide +kernel) (pa_cons (pv 0) (pa_cons (pe_bltn (v := .ty "int") (by rfl) T.int (by decide +kernel) rfl) pa_nil)))
      (pe_and (pe_not (pe_callB call_isi (by rfl) T.isi (by decide +kernel) (pa_cons (pv 0) (pa_cons (pe_bltn (v := .ty "bool") (by rfl) T.bool (by decide +kernel) rfl) pa_nil))))
        (pe_one (pe_cmpR op_ge (pv 0) pe_int (nomark _)))))), ?_⟩
    refine ⟨_, rfl, _, _, _, _, true, rfl, .ty _, .base (.int _), kit_ty (by decide +kernel), true, rfl, iteT ?_⟩
    refine ⟨_, rfl, _, _, _, _, false, rfl, .ty _, .base (.int _), kit_ty (by decide +kernel), false, rfl, true, rfl, iteT ?_⟩
    refine ⟨_, rfl, _, _, rfl, rfl, ?_⟩
    exact q_T (c := (0 : Int) ≤ (n : Int)) (by omega) q

/-! ### is_deed(thing) of a deed -/
def spIsDeed : Sp := fun vs H Q _ => ∃ (a : Addr) (d : Deed), vs = [.ref a] ∧ DAt H a d ∧ sgOk d ∧ Q (.bl true) H
theorem scIsDeed : FnScope ["thing"] ["thing"] (defScope sIsDeed) := ⟨rfl, rfl, rfl, by decide +kernel, rfl, by decide +kernel, by decide +kernel⟩
theorem ok_is_deed {f : Addr} {fd : FuncData} (F : Fun K "is_deed" "is_deed" sIsDeed f fd) (T : Txt K w mg CS CY PA) (GS : FnG P w K mg base 1 "is_sign" ["thing"] spIsSign) (GP : FnG P w K mg base 1 "is_place" ["thing"] spIsPlace) :
    FnOk P w K mg base CX0 2 f fd ["thing"] spIsDeed := by
  refine F.ok scIsDeed (fun vs H Q E h => ?_) (fun cdv A outer s H vs Q E hr h => ?_)
  · obtain ⟨a, d, rfl, _⟩ := h
    rfl
  · obtain ⟨a, d, rfl, hd, hs, q⟩ := h
    have ht : SqT K H a (dv d) := SqT.of hd
    have hln : 0 < (dv d).length := by cases d <;> simp [dv]
    refine ⟨_, pss_cons (ps_if (PW.pt (pw_or (pt_not (pt_val (pe_callB call_isi (by rfl) T.isi (by decide +kernel) (pa_cons (pv 0) (pa_cons (pe_bltn (v := .ty "tuple") (by rfl) T.tuple (by decide +kernel) rfl) pa_nil)))))
        (pw_or (pt_cmpR op_eq (pe_callB call_len_seq (by rfl) T.len PySem.boot_len (pa_cons (pv 0) pa_nil)) pe_int (nomark _))
          (pw_or1 (pt_not (pt_val (pe_callB call_isi (by rfl) T.isi (by decide +kernel) (pa_cons (pe_ix ix_tup (pv 0) pe_int (fun _ _ => rfl)) (pa_cons (pe_bltn (v := .ty "str") (by rfl) T.str (by decide +kernel) rfl) pa_nil)))))))))
        (pss_one (ps_ret pe_bl)) pss_nil)
      (pss_cons (ps_if (pt_cmpR op_ne (pe_kget2 (pe_glob (v := .ref PA) rfl T.parts rfl) (pe_ix ix_tup (pv 0) pe_int (fun _ _ => rfl)) pe_int ⟨rfl, rfl, rfl, rfl⟩) (pe_callB call_len_seq (by rfl) T.len PySem.boot_len (pa_cons (pv 0) pa_nil)) (nomark _))
        (pss_one (ps_ret pe_bl)) pss_nil)
      (pss_cons (ps_if (PW.pt (pw_and (pt_cmpR op_gt (pe_callB call_len_seq (by rfl) T.len PySem.boot_len (pa_cons (pv 0) pa_nil)) pe_int (nomark _)) (pw_and1 (pt_not (pt_val (pcall GP hr (by decide) rfl (pa_cons (pe_ix ix_tup (pv 0) pe_int (fun _ _ => rfl)) pa_nil)))))))
        (pss_one (ps_ret pe_bl)) pss_nil)
      (pss_one (ps_ret (pe_or (pe_cmpR op_lt (pe_callB call_len_seq (by rfl) T.len PySem.boot_len (pa_cons (pv 0) pa_nil)) pe_int (nomark _)) (pe_one (pcall GS hr (by decide) rfl (pa_cons (pe_ix ix_tup (pv 0) pe_int (fun _ _ => rfl)) pa_nil)))))))), ?_⟩
    obtain ⟨es, nn, hk⟩ := T.plk
    refine ⟨_, rfl, _, _, _, _, true, rfl, .ty _, .base (.tup hd), kit_ty (by decide +kernel), true, rfl, iteF ?_⟩
    refine ⟨_, rfl, _, _, rfl, .inr ht, rfl, false, ?_, iteF ?_⟩
    · rw [V.bl.injEq, decide_eq_false_iff_not, V.int.injEq]
      omega
    have h0 : ∃ k : Str, (dv d)[0]? = some (.str k) ∧ KDct K w PA k (.int ((dv d).length : Nat)) := by
      cases d with
      | put p c => exact ⟨_, rfl, T.pput⟩
      | cut p => exact ⟨_, rfl, T.pcut⟩
      | non => exact ⟨_, rfl, T.pnon⟩
    obtain ⟨k, hk0, hkd⟩ := h0
    refine ⟨_, rfl, _, _, _, _, rfl, rfl, ht, at_of (j := 0) rfl hk0, _, _, _, _, true, rfl, .ty _, .base (.str _), kit_ty (by decide +kernel), true, rfl, iteF ?_⟩
    refine ⟨_, rfl, ⟨_, _, hk⟩, _, rfl, _, _, _, _, rfl, rfl, ht, at_of (j := 0) rfl hk0, k, _, rfl, T.plow, hkd, _, rfl, _, _, rfl, .inr ht, rfl, false, ?_, iteF ?_⟩
    · simp
    cases d with
    | put p c =>
      refine ⟨_, rfl, _, _, rfl, .inr ht, _, _, rfl, rfl, true, rfl, iteT ?_⟩
      refine ⟨_, rfl, _, _, _, _, rfl, rfl, ht, at_of (j := 1) rfl rfl, p, rfl, true, rfl, iteF ?_⟩
      refine ⟨_, rfl, _, _, rfl, .inr ht, _, _, rfl, rfl, false, rfl, iteF ?_⟩
      exact ⟨_, rfl, _, _, _, _, rfl, rfl, ht, at_of (j := 2) rfl rfl, c, rfl, hs, q⟩
    | cut p =>
      refine ⟨_, rfl, _, _, rfl, .inr ht, _, _, rfl, rfl, true, rfl, iteT ?_⟩
      refine ⟨_, rfl, _, _, _, _, rfl, rfl, ht, at_of (j := 1) rfl rfl, p, rfl, true, rfl, iteF ?_⟩
      exact ⟨_, rfl, _, _, rfl, .inr ht, _, _, rfl, rfl, true, rfl, iteT q⟩
    | non =>
      refine ⟨_, rfl, _, _, rfl, .inr ht, _, _, rfl, rfl, false, rfl, iteF ?_⟩
      refine iteF ?_
      exact ⟨_, rfl, _, _, rfl, .inr ht, _, _, rfl, rfl, true, rfl, iteT q⟩
end
end Far
end

section
set_option linter.all false
set_option maxRecDepth 100000
set_option maxHeartbeats 4000000
namespace Far
open PySem PySem.Spec PyProof.Rows L2 FarN FarR
theorem insert_td (l : List Nat) (p c : Nat) (h : p ≤ l.length) : l.insertIdx p c = l.take p ++ c :: l.drop p := by
  induction l generalizing p with
  | nil =>
    have : p = 0 := by simpa using h
    subst this
    rfl
  | cons a l ih =>
    cases p with
    | zero => rfl
    | succ p =>
      simp only [List.insertIdx_succ_cons, List.take_succ_cons, List.drop_succ_cons, List.cons_append]
      rw [ih p (by simpa using h)]
theorem erase_td (l : List Nat) (p : Nat) : l.eraseIdx p = l.take p ++ l.drop (p + 1) := List.eraseIdx_eq_take_drop_succ l p
theorem app_length_le (d : Deed) (l : List Nat) : (app d l).length ≤ l.length + 1 := by
  cases d with
  | put p c => simp only [app, List.length_insertIdx]; split <;> omega
  | cut p => simp only [app, List.length_eraseIdx]; split <;> omega
  | non => exact Nat.le_succ _
section
variable {P : Program} {w : World} {K : PySem.W.Frag} {mg : Str → Option Value} {base : Heap} {CS CY PA : Addr}

/-! ### can_be_done(line, deed), where it can -/
def spCan : Sp := fun vs H Q _ => ∃ (l : List Nat) (a : Addr) (d : Deed), vs = [.str (ln l), .ref a] ∧ DAt H a d ∧ sgOk d ∧ ok d l ∧ l.length ≤ 1000 ∧ Q (.bl true) H
theorem scCan : FnScope ["line", "deed"] ["line", "deed"] (defScope sCan) := ⟨rfl, rfl, rfl, by decide +kernel, rfl, by decide +kernel, by decide +kernel⟩
theorem ok_can {f : Addr} {fd : FuncData} (F : Fun K "can_be_done" "can_be_done" sCan f fd) (T : Txt K w mg CS CY PA) (GD : FnG P w K mg base 2 "is_deed" ["thing"] spIsDeed) : FnOk P w K mg base CX0 3 f fd ["line", "deed"] spCan := by
  refine F.ok scCan (fun vs H Q E h => ?_) (fun cdv A outer s H vs Q E hr h => ?_)
  · obtain ⟨l, a, d, rfl, _⟩ := h
    rfl
  · obtain ⟨l, a, d, rfl, hd, hs, ho, hl, q⟩ := h
    have ht : SqT K H a (dv d) := SqT.of hd
    have hz : (ln l).length ≤ sizeLine := by rw [ln_length]; exact Nat.le_trans hl (by decide)
    refine ⟨_, pss_cons (ps_if (pt_not (pt_val (pcall GD hr (by decide) rfl (pa_cons (pv 1) pa_nil)))) (pss_one (ps_ret pe_bl)) pss_nil)
      (pss_cons (ps_if (pt_cmpR op_eq (pe_ix ix_tup (pv 1) pe_int (fun _ _ => rfl)) pe_str (nomark _)) (pss_one (ps_ret (pe_cmpR op_le (pe_ix ix_tup (pv 1) pe_int (fun _ _ => rfl)) (pe_callB call_len_str (by rfl) T.len PySem.boot_len (pa_cons (pv 0) pa_nil)) (nomark _)))) pss_nil)
      (pss_one (ps_ret (pe_or (pe_cmpR op_eq (pe_ix ix_tup (pv 1) pe_int (fun _ _ => rfl)) pe_str (nomark _)) (pe_one (pe_cmpR op_lt (pe_ix ix_tup (pv 1) pe_int (fun _ _ => rfl)) (pe_callB call_len_str (by rfl) T.len PySem.boot_len (pa_cons (pv 0) pa_nil)) (nomark _))))))), ?_⟩
    refine ⟨_, rfl, a, d, rfl, hd, hs, true, rfl, iteF ?_⟩
    cases d with
    | put p c =>
      refine ⟨_, rfl, _, _, _, _, rfl, rfl, ht, at_of (j := 0) rfl rfl, rfl, true, by decide +kernel, iteT ?_⟩
      refine ⟨_, rfl, _, _, _, _, rfl, rfl, ht, at_of (j := 1) rfl rfl, _, rfl, _, rfl, hz, _, _, rfl, rfl, ?_⟩
      exact q_T (c := ((p : Nat) : Int) ≤ (((ln l).length : Nat) : Int)) (by rw [ln_length]; have : p ≤ l.length := ho; omega) q
    | cut p =>
      refine ⟨_, rfl, _, _, _, _, rfl, rfl, ht, at_of (j := 0) rfl rfl, rfl, false, by decide +kernel, iteF ?_⟩
      refine ⟨_, rfl, _, _, _, _, rfl, rfl, ht, at_of (j := 0) rfl rfl, rfl, false, by decide +kernel, iteF ?_⟩
      refine ⟨_, rfl, _, _, _, _, rfl, rfl, ht, at_of (j := 1) rfl rfl, _, rfl, _, rfl, hz, _, _, rfl, rfl, ?_⟩
      exact q_T (c := ((p : Nat) : Int) < (((ln l).length : Nat) : Int)) (by rw [ln_length]; have : p < l.length := ho; omega) q
    | non =>
      refine ⟨_, rfl, _, _, _, _, rfl, rfl, ht, at_of (j := 0) rfl rfl, rfl, false, by decide +kernel, iteF ?_⟩
      exact ⟨_, rfl, _, _, _, _, rfl, rfl, ht, at_of (j := 0) rfl rfl, rfl, true, by decide +kernel, iteT q⟩

/-! ### done(line, deed) -/
def spDone : Sp := fun vs H Q _ => ∃ (l : List Nat) (a : Addr) (d : Deed), vs = [.str (ln l), .ref a] ∧ DAt H a d ∧ sgOk d ∧ ok d l ∧ l.length ≤ 900 ∧ Q (.str (ln (app d l))) H
theorem scDone : FnScope ["line", "deed"] ["line", "deed"] (defScope sDone) := ⟨rfl, rfl, rfl, by decide +kernel, rfl, by decide +kernel, by decide +kernel⟩
theorem ok_done {f : Addr} {fd : FuncData} (F : Fun K "done" "done" sDone f fd) (T : Txt K w mg CS CY PA) (GC : FnG P w K mg base 3 "can_be_done" ["line", "deed"] spCan) : FnOk P w K mg base CX0 4 f fd ["line", "deed"] spDone := by
  refine F.ok scDone (fun vs H Q E h => ?_) (fun cdv A outer s H vs Q E hr h => ?_)
  · obtain ⟨l, a, d, rfl, _⟩ := h
    rfl
  · obtain ⟨l, a, d, rfl, hd, hs, ho, hl, q⟩ := h
    have ht : SqT K H a (dv d) := SqT.of hd
    have hz : (ln l).length ≤ sizeLine := by rw [ln_length]; exact Nat.le_trans hl (by decide)
    refine ⟨_, pss_cons (ps_if (pt_not (pt_val (pcall GC hr (by decide) rfl (pa_cons (pv 0) (pa_cons (pv 1) pa_nil))))) (pss_one ps_never) pss_nil)
      (pss_cons (ps_if (pt_cmpR op_eq (pe_ix ix_tup (pv 1) pe_int (fun _ _ => rfl)) pe_str (nomark _))
        (pss_one (ps_ret (pe_op op_add_str (pe_op op_add_str (pe_slice sl_str (pv 0) po_none (po_some (pe_ix ix_tup (pv 1) pe_int (fun _ _ => rfl)))) (pe_ix ix_tup (pv 1) pe_int (fun _ _ => rfl))) (pe_slice sl_str (pv 0) (po_some (pe_ix ix_tup (pv 1) pe_int (fun _ _ => rfl))) po_none)))) pss_nil)
      (pss_cons (ps_if (pt_cmpR op_eq (pe_ix ix_tup (pv 1) pe_int (fun _ _ => rfl)) pe_str (nomark _))
        (pss_one (ps_ret (pe_op op_add_str (pe_slice sl_str (pv 0) po_none (po_some (pe_ix ix_tup (pv 1) pe_int (fun _ _ => rfl)))) (pe_slice sl_str (pv 0) (po_some (pe_op op_add (pe_ix ix_tup (pv 1) pe_int (fun _ _ => rfl)) pe_int)) po_none)))) pss_nil)
      (pss_one (ps_ret (pv 0))))), ?_⟩
    refine ⟨_, rfl, _, rfl, l, a, d, rfl, hd, hs, ho, by omega, true, rfl, iteF ?_⟩
    cases d with
    | put p c =>
      have hp : p ≤ l.length := ho
      refine ⟨_, rfl, _, _, _, _, rfl, rfl, ht, at_of (j := 0) rfl rfl, rfl, true, by decide +kernel, iteT ?_⟩
      refine ⟨_, rfl, _, rfl, _, _, _, _, rfl, rfl, ht, at_of (j := 1) rfl rfl, (p : Int), rfl, _, rfl, hz, ?_⟩
      rw [cut_to]
      refine ⟨_, rfl, _, _, _, _, rfl, rfl, ht, at_of (j := 2) rfl rfl, _, _, rfl, rfl, ?_, ?_⟩
      · rw [one_ln, ln_length, ln_length, List.length_take]
        exact Nat.le_trans (show _ ≤ 1000 by show min p l.length + 1 ≤ 1000; omega) (by decide)
      refine ⟨_, rfl, _, rfl, _, _, _, _, rfl, rfl, ht, at_of (j := 1) rfl rfl, (p : Int), rfl, _, rfl, hz, ?_⟩
      rw [cut_from]
      refine ⟨_, _, rfl, rfl, ?_, ?_⟩
      · rw [one_ln, ln_append, ln_length, ln_length, List.length_append, List.length_take, List.length_drop]
        exact Nat.le_trans (show _ ≤ 1000 by show min p l.length + 1 + (l.length - p) ≤ 1000; omega) (by decide)
      have e : ln (l.take p) ++ one c ++ ln (l.drop p) = ln (app (.put p c) l) := by
        rw [one_ln, ln_append, ln_append]
        show ln _ = ln (l.insertIdx p c)
        rw [insert_td l p c hp, List.append_assoc]
        rfl
      show Q (V.str (ln (l.take p) ++ one c ++ ln (l.drop p))) H
      rw [e]
      exact q
    | cut p =>
      have hp : p < l.length := ho
      refine ⟨_, rfl, _, _, _, _, rfl, rfl, ht, at_of (j := 0) rfl rfl, rfl, false, by decide +kernel, iteF ?_⟩
      refine ⟨_, rfl, _, _, _, _, rfl, rfl, ht, at_of (j := 0) rfl rfl, rfl, true, by decide +kernel, iteT ?_⟩
      refine ⟨_, rfl, _, rfl, _, _, _, _, rfl, rfl, ht, at_of (j := 1) rfl rfl, (p : Int), rfl, _, rfl, hz, ?_⟩
      rw [cut_to]
      refine ⟨_, rfl, _, rfl, _, _, _, _, rfl, rfl, ht, at_of (j := 1) rfl rfl, (p : Int), 1, rfl, rfl, ((p + 1 : Nat) : Int), by simp, _, rfl, hz, ?_⟩
      rw [cut_from]
      refine ⟨_, _, rfl, rfl, ?_, ?_⟩
      · rw [ln_length, ln_length, List.length_take, List.length_drop]
        exact Nat.le_trans (show _ ≤ 1000 by omega) (by decide)
      rw [ln_append, ← erase_td]
      exact q
    | non =>
      refine ⟨_, rfl, _, _, _, _, rfl, rfl, ht, at_of (j := 0) rfl rfl, rfl, false, by decide +kernel, iteF ?_⟩
      refine ⟨_, rfl, _, _, _, _, rfl, rfl, ht, at_of (j := 0) rfl rfl, rfl, false, by decide +kernel, iteF ?_⟩
      exact ⟨_, rfl, q⟩
end
end Far
end

section
set_option linter.all false
set_option maxRecDepth 100000
set_option maxHeartbeats 4000000
namespace Far
open PySem PySem.Spec PyProof.Rows L2 FarN FarR
/-- the deed at another place -/
def Deed.at : Deed → Nat → Deed
  | .put _ c, p => .put p c
  | .cut _, p => .cut p
  | .non, _ => .non
theorem iteD {A B : Prop} {c : Prop} [Decidable c] (h : c) (q : A) : if decide c = true then A else B := by
  rw [decide_eq_true h]
  exact iteT q
theorem iteDn {A B : Prop} {c : Prop} [Decidable c] (h : ¬ c) (q : B) : if decide c = true then A else B := by
  rw [decide_eq_false h]
  exact iteF q
section
variable {P : Program} {w : World} {K : PySem.W.Frag} {mg : Str → Option Value} {base : Heap} {CS CY PA : Addr}

/-! ### moved(deed, other, first) -/
def spMoved : Sp := fun vs H Q _ => ∃ (a b : Addr) (d o : Deed) (f : Bool), vs = [.ref a, .ref b, .bl f] ∧ DAt H a d ∧ DAt H b o ∧ ∀ (r : Addr) (H' : Hp), Same H H' → DAt H' r (mv d o f) → Q (.ref r) H'
theorem scMoved : FnScope ["deed", "other", "first", "place", "there"] ["deed", "other", "first"] (defScope sMoved) := ⟨rfl, rfl, rfl, by decide +kernel, rfl, by decide +kernel, by decide +kernel⟩
theorem ok_moved {f : Addr} {fd : FuncData} (F : Fun K "moved" "moved" sMoved f fd) : FnOk P w K mg base CX0 1 f fd ["deed", "other", "first"] spMoved := by
  refine F.ok scMoved (fun vs H Q E h => ?_) (fun cdv A outer s H vs Q E hr h => ?_)
  · obtain ⟨a, b, d, o, f, rfl, _⟩ := h
    rfl
  · obtain ⟨a, b, d, o, ff, rfl, hd, ho, q⟩ := h
    have nd := scMoved.nd
    have ht : SqT K H a (dv d) := SqT.of hd
    have hu : SqT K H b (dv o) := SqT.of ho
    refine ⟨_, pss_cons (ps_if (PW.pt (pw_or (pt_cmpR op_eq (pe_ix ix_tup (pv 0) pe_int (fun _ _ => rfl)) pe_str (nomark _)) (pw_or1 (pt_cmpR op_eq (pe_ix ix_tup (pv 1) pe_int (fun _ _ => rfl)) pe_str (nomark _))))) (pss_one (ps_ret (pv 0))) pss_nil)
      (pss_cons (ps_set (i := 3) nd rfl (Or.inl rfl) (pe_ix ix_tup (pv 0) pe_int (fun _ _ => rfl)))
      (pss_cons (ps_set (i := 4) nd rfl (Or.inl rfl) (pe_ix ix_tup (pv 1) pe_int (fun _ _ => rfl)))
      (Evl.pss_cut (ps_if (pt_cmpR op_eq (pe_ix ix_tup (pv 1) pe_int (fun _ _ => rfl)) pe_str (nomark _))
        (pss_one (ps_if (PW.pt (pw_or (pt_cmpR op_lt (pv 4) (pv 3) (nomark _)) (pw_or1 (PW.pt (pw_and (pt_cmpR op_eq (pv 4) (pv 3) (nomark _)) (pw_and1 (PW.pt (pw_or (pt_cmpR op_eq (pe_ix ix_tup (pv 0) pe_int (fun _ _ => rfl)) pe_str (nomark _)) (pw_or1 (pt_not (pt_val (pv 2))))))))))))
          (pss_one (ps_aug (i := 3) nd rfl (Or.inl rfl) pe_int ip_add)) pss_nil))
        (pss_one (ps_if (pt_cmpR op_lt (pv 4) (pv 3) (nomark _)) (pss_one (ps_aug (i := 3) nd rfl (Or.inl rfl) pe_int ip_sub))
          (pss_one (ps_if (PW.pt (pw_and (pt_cmpR op_eq (pv 4) (pv 3) (nomark _)) (pw_and1 (pt_cmpR op_eq (pe_ix ix_tup (pv 0) pe_int (fun _ _ => rfl)) pe_str (nomark _))))) (pss_one (ps_ret (pe_tup (pa_cons pe_str pa_nil)))) pss_nil)))))
      (pss_one (ps_ret (pe_op op_catT (pe_tup (pa_cons (pe_ix ix_tup (pv 0) pe_int (fun _ _ => rfl)) (pa_cons (pv 3) pa_nil))) (pe_slice sl_tup (pv 0) (po_some pe_int) po_none))))))), ?_⟩
    -- the last row, from the place
    have fin : ∀ (m : Int) (hdn : d ≠ .non) (σ' : L2.St) (H' : Hp), (∃ n : Nat, σ' = [some (V.ref a), some (.ref b), some (.bl ff), some (.int n), some (.int m)] ∧ H' = H ∧ mv d o ff = d.at n) →
        (tRet (tOp (rCatT K) (tTup (tCons (tOp (rIxT K) (tVar 0) (tC (.int 0))) (tCons (tVar 3) tNil))) (tSl (rSlT K) (tVar 0) (tPart (tC (.int 2))) tNoPart))) { nx := fun _ H' => Q .non H', rt := Q } σ' H' := by
      rintro m hdn σ' H' ⟨n, rfl, rfl, hm⟩
      cases d with
      | non => exact absurd rfl hdn
      | put p c =>
        refine ⟨_, rfl, _, _, _, _, rfl, rfl, ht, at_of (j := 0) rfl rfl, _, rfl, (by show 2 ≤ sizeLine; decide), fun t1 h1 => ?_⟩
        have s1 := Same.new (.tup [V.str "put", V.int n]) h1
        refine ⟨_, rfl, 2, rfl, a, _, rfl, SqT.of (hd.same s1), (by show ¬ (HT.sIx 3 0 (some 2) = 0 ∧ HT.sIx 3 3 none = 3); decide), fun t2 h2 => ?_⟩
        have s2 := Same.new (.tup (cutV (dv (.put p c)) (some 2) none)) h2
        refine ⟨t1, t2, _, _, rfl, rfl, SqT.of (s2 _ _ upd_same), SqT.of upd_same, by simp, by show 2 + 1 ≤ sizeLine; decide, fun z => (by cases z), fun _ t3 h3 => ?_⟩
        have s3 := Same.new (.tup ([V.str "put", V.int n] ++ cutV (dv (.put p c)) (some 2) none)) h3
        refine q t3 _ ((s1.trans s2).trans s3) ?_
        rw [hm]
        exact upd_same
      | cut p =>
        refine ⟨_, rfl, _, _, _, _, rfl, rfl, ht, at_of (j := 0) rfl rfl, _, rfl, (by show 2 ≤ sizeLine; decide), fun t1 h1 => ?_⟩
        have s1 := Same.new (.tup [V.str "cut", V.int n]) h1
        refine ⟨_, rfl, 2, rfl, a, _, rfl, SqT.of (hd.same s1), (by show ¬ (HT.sIx 2 0 (some 2) = 0 ∧ HT.sIx 2 2 none = 2); decide), fun t2 h2 => ?_⟩
        have s2 := Same.new (.tup (cutV (dv (.cut p)) (some 2) none)) h2
        refine ⟨t1, t2, _, _, rfl, rfl, SqT.of (s2 _ _ upd_same), SqT.of upd_same, by simp, by show 2 + 0 ≤ sizeLine; decide, fun _ => ?_, fun z => absurd rfl z⟩
        refine q t1 _ (s1.trans s2) ?_
        rw [hm]
        exact s2 _ _ upd_same
    -- deed none, other none
    cases d with
    | non =>
      refine ⟨_, rfl, _, _, _, _, rfl, rfl, ht, at_of (j := 0) rfl rfl, rfl, true, by decide +kernel, ?_⟩
      exact iteT (iteT ⟨_, rfl, q a H (Same.refl H) hd⟩)
    | put p c =>
      refine ⟨_, rfl, _, _, _, _, rfl, rfl, ht, at_of (j := 0) rfl rfl, rfl, false, by decide +kernel, ?_⟩
      refine iteF ?_
      cases o with
      | non =>
        refine ⟨_, rfl, _, _, _, _, rfl, rfl, hu, at_of (j := 0) rfl rfl, rfl, true, by decide +kernel, ?_⟩
        exact iteT ⟨_, rfl, q a H (Same.refl H) hd⟩
      | put r e =>
        refine ⟨_, rfl, _, _, _, _, rfl, rfl, hu, at_of (j := 0) rfl rfl, rfl, false, by decide +kernel, iteF ?_⟩
        refine ⟨_, rfl, _, _, _, _, rfl, rfl, ht, at_of (j := 1) rfl rfl, _, rfl, _, _, _, _, rfl, rfl, hu, at_of (j := 1) rfl rfl, _, ?_, fin ((r : Nat) : Int) (fun z => by cases z)⟩
        refine ⟨_, rfl, _, _, _, _, rfl, rfl, hu, at_of (j := 0) rfl rfl, rfl, true, by decide +kernel, iteT ?_⟩
        refine ⟨_, rfl, _, rfl, _, _, rfl, rfl, _, rfl, ?_⟩
        by_cases h1 : r < p
        · refine iteD (by omega) (iteT ?_)
          exact ⟨_, rfl, _, _, rfl, rfl, p + 1, rfl, rfl, by simp [mv, Deed.at, h1]⟩
        · refine iteDn (by omega) ?_
          refine ⟨_, rfl, _, rfl, rfl, _, rfl, ?_⟩
          by_cases h2 : r = p
          · refine iteD (by rw [h2]) ?_
            refine ⟨_, rfl, _, _, _, _, rfl, rfl, ht, at_of (j := 0) rfl rfl, rfl, false, by decide +kernel, iteF ?_⟩
            refine ⟨_, rfl, ff, rfl, ?_⟩
            cases ff with
            | true =>
              refine iteF ?_
              exact ⟨p, rfl, rfl, by simp [mv, Deed.at, h1]⟩
            | false =>
              refine iteT ?_
              exact ⟨_, rfl, _, _, rfl, rfl, p + 1, rfl, rfl, by simp [mv, Deed.at, h2]⟩
          · refine iteDn (fun z => h2 (by injection z with z; omega)) (iteF ?_)
            exact ⟨p, rfl, rfl, by simp [mv, Deed.at, h1, h2]⟩
      | cut r =>
        refine ⟨_, rfl, _, _, _, _, rfl, rfl, hu, at_of (j := 0) rfl rfl, rfl, false, by decide +kernel, iteF ?_⟩
        refine ⟨_, rfl, _, _, _, _, rfl, rfl, ht, at_of (j := 1) rfl rfl, _, rfl, _, _, _, _, rfl, rfl, hu, at_of (j := 1) rfl rfl, _, ?_, fin ((r : Nat) : Int) (fun z => by cases z)⟩
        refine ⟨_, rfl, _, _, _, _, rfl, rfl, hu, at_of (j := 0) rfl rfl, rfl, false, by decide +kernel, iteF ?_⟩
        refine ⟨_, rfl, _, rfl, _, _, rfl, rfl, _, rfl, ?_⟩
        by_cases h1 : r < p
        · refine iteD (by omega) ?_
          exact ⟨_, rfl, _, _, rfl, rfl, p - 1, by rw [show ((p - 1 : Nat) : Int) = (p : Int) - 1 by omega]; rfl, rfl, by simp [mv, Deed.at, h1]⟩
        · refine iteDn (by omega) ?_
          refine ⟨_, rfl, _, rfl, rfl, _, rfl, ?_⟩
          by_cases h2 : r = p
          · refine iteD (by rw [h2]) ?_
            refine ⟨_, rfl, _, _, _, _, rfl, rfl, ht, at_of (j := 0) rfl rfl, rfl, false, by decide +kernel, iteF ?_⟩
            exact ⟨p, rfl, rfl, by simp [mv, Deed.at, h1]⟩
          · refine iteDn (fun z => h2 (by injection z with z; omega)) (iteF ?_)
            exact ⟨p, rfl, rfl, by simp [mv, Deed.at, h1]⟩
    | cut p =>
      refine ⟨_, rfl, _, _, _, _, rfl, rfl, ht, at_of (j := 0) rfl rfl, rfl, false, by decide +kernel, ?_⟩
      refine iteF ?_
      cases o with
      | non =>
        refine ⟨_, rfl, _, _, _, _, rfl, rfl, hu, at_of (j := 0) rfl rfl, rfl, true, by decide +kernel, ?_⟩
        exact iteT ⟨_, rfl, q a H (Same.refl H) hd⟩
      | put r e =>
        refine ⟨_, rfl, _, _, _, _, rfl, rfl, hu, at_of (j := 0) rfl rfl, rfl, false, by decide +kernel, iteF ?_⟩
        refine ⟨_, rfl, _, _, _, _, rfl, rfl, ht, at_of (j := 1) rfl rfl, _, rfl, _, _, _, _, rfl, rfl, hu, at_of (j := 1) rfl rfl, _, ?_, fin ((r : Nat) : Int) (fun z => by cases z)⟩
        refine ⟨_, rfl, _, _, _, _, rfl, rfl, hu, at_of (j := 0) rfl rfl, rfl, true, by decide +kernel, iteT ?_⟩
        refine ⟨_, rfl, _, rfl, _, _, rfl, rfl, _, rfl, ?_⟩
        by_cases h1 : r < p
        · refine iteD (by omega) (iteT ?_)
          exact ⟨_, rfl, _, _, rfl, rfl, p + 1, rfl, rfl, by simp [mv, Deed.at, h1]⟩
        · refine iteDn (by omega) ?_
          refine ⟨_, rfl, _, rfl, rfl, _, rfl, ?_⟩
          by_cases h2 : r = p
          · refine iteD (by rw [h2]) ?_
            refine ⟨_, rfl, _, _, _, _, rfl, rfl, ht, at_of (j := 0) rfl rfl, rfl, true, by decide +kernel, iteT (iteT ?_)⟩
            exact ⟨_, rfl, _, _, rfl, rfl, p + 1, rfl, rfl, by simp [mv, Deed.at, h2]⟩
          · refine iteDn (fun z => h2 (by injection z with z; omega)) (iteF ?_)
            exact ⟨p, rfl, rfl, by simp [mv, Deed.at, h1, h2]⟩
      | cut r =>
        refine ⟨_, rfl, _, _, _, _, rfl, rfl, hu, at_of (j := 0) rfl rfl, rfl, false, by decide +kernel, iteF ?_⟩
        refine ⟨_, rfl, _, _, _, _, rfl, rfl, ht, at_of (j := 1) rfl rfl, _, rfl, _, _, _, _, rfl, rfl, hu, at_of (j := 1) rfl rfl, _, ?_, fin ((r : Nat) : Int) (fun z => by cases z)⟩
        refine ⟨_, rfl, _, _, _, _, rfl, rfl, hu, at_of (j := 0) rfl rfl, rfl, false, by decide +kernel, iteF ?_⟩
        refine ⟨_, rfl, _, rfl, _, _, rfl, rfl, _, rfl, ?_⟩
        by_cases h1 : r < p
        · refine iteD (by omega) ?_
          exact ⟨_, rfl, _, _, rfl, rfl, p - 1, by rw [show ((p - 1 : Nat) : Int) = (p : Int) - 1 by omega]; rfl, rfl, by simp [mv, Deed.at, h1]⟩
        · refine iteDn (by omega) ?_
          refine ⟨_, rfl, _, rfl, rfl, _, rfl, ?_⟩
          by_cases h2 : r = p
          · refine iteD (by rw [h2]) ?_
            refine ⟨_, rfl, _, _, _, _, rfl, rfl, ht, at_of (j := 0) rfl rfl, rfl, true, by decide +kernel, iteT ?_⟩
            refine ⟨by show 1 ≤ sizeLine; decide, fun t1 h3 => ?_⟩
            refine q t1 _ (Same.new _ h3) ?_
            have e : mv (.cut p) (.cut r) ff = .non := by simp [mv, h2]
            rw [e]
            exact upd_same
          · refine iteDn (fun z => h2 (by injection z with z; omega)) (iteF ?_)
            exact ⟨p, rfl, rfl, by simp [mv, Deed.at, h1, h2]⟩
end
end Far
end

section
set_option linter.all false
set_option maxRecDepth 100000
set_option maxHeartbeats 4000000
namespace Far
open PySem PySem.Spec PyProof.Rows L2 FarN FarR
/-! ### rows of deeds in the heap -/
def TK (H H' : Hp) : Prop := ∀ (a : Addr) (xs : List V), H a = some (.tup xs) → H' a = some (.tup xs)
theorem TK.refl (H : Hp) : TK H H := fun _ _ e => e
theorem TK.of {H H' : Hp} (s : Same H H') : TK H H' := fun a xs e => s _ _ e
theorem TK.trans {H H' H2 : Hp} (s : TK H H') (t : TK H' H2) : TK H H2 := fun a xs e => t _ _ (s _ _ e)
def NoT (o : Option HO) : Prop := ∀ xs, o ≠ some (.tup xs)
theorem TK.upd {H : Hp} {p : Addr} (o : HO) (h : NoT (H p)) : TK H (upd H p o) := fun a xs e => by
  rw [upd_ne (fun z => h xs (by rw [← z]; exact e))]
  exact e
theorem small {n : Nat} (h : n ≤ 1000) : n < sizeLine := Nat.lt_of_le_of_lt h (by decide)
theorem small' {n : Nat} (h : n ≤ 1000) : n ≤ sizeLine := Nat.le_trans h (by decide)
theorem TK.d {H H' : Hp} {a : Addr} {d : Deed} (s : TK H H') (h : DAt H a d) : DAt H' a d := s _ _ h
theorem NoT.lst {o : Option HO} {xs : List V} (h : o = some (.lst xs)) : NoT o := fun ys z => by
  rw [h] at z; injection z with z; cases z
theorem NoT.ins {o : Option HO} {C dx : Addr} {fs : List (Str × V)} (h : o = some (.ins C dx fs)) : NoT o := fun ys z => by
  rw [h] at z; injection z with z; cases z
theorem NoT.non {o : Option HO} (h : o = none) : NoT o := fun ys z => by
  rw [h] at z; cases z
/-- the values are the deeds' addresses -/
def DRow (H : Hp) : List V → List Deed → Prop
  | [], [] => True
  | .ref a :: xs, d :: ds => DAt H a d ∧ DRow H xs ds
  | _, _ => False
theorem DRow.keep {H H' : Hp} (s : TK H H') : ∀ {xs : List V} {ds : List Deed}, DRow H xs ds → DRow H' xs ds
  | [], [], _ => trivial
  | .ref a :: xs, d :: ds, h => ⟨s.d h.1, DRow.keep s h.2⟩
theorem DRow.len {H : Hp} : ∀ {xs : List V} {ds : List Deed}, DRow H xs ds → xs.length = ds.length
  | [], [], _ => rfl
  | .ref a :: xs, d :: ds, h => by rw [List.length_cons, List.length_cons, DRow.len h.2]
theorem DRow.snoc {H : Hp} {a : Addr} {d : Deed} (e : DAt H a d) : ∀ {xs : List V} {ds : List Deed}, DRow H xs ds → DRow H (xs ++ [.ref a]) (ds ++ [d])
  | [], [], _ => ⟨e, trivial⟩
  | .ref b :: xs, c :: ds, h => ⟨h.1, DRow.snoc e h.2⟩
theorem DRow.at {H : Hp} : ∀ {xs : List V} {ds : List Deed} {i : Nat} {x : V}, DRow H xs ds → xs[i]? = some x → ∃ a d, x = .ref a ∧ ds[i]? = some d ∧ DAt H a d
  | .ref a :: xs, d :: ds, 0, x, h, e => ⟨a, d, (Option.some.inj e).symm, rfl, h.1⟩
  | .ref a :: xs, d :: ds, i + 1, x, h, e => DRow.at (i := i) h.2 (by simpa using e)
  | [], [], i, x, _, e => by simp at e
theorem DRow.drop {H : Hp} : ∀ {xs : List V} {ds : List Deed} (k : Nat), DRow H xs ds → DRow H (xs.drop k) (ds.drop k)
  | xs, ds, 0, h => h
  | [], [], k + 1, _ => trivial
  | .ref a :: xs, d :: ds, k + 1, h => DRow.drop k h.2
theorem cutV_from (xs : List V) (k : Nat) : cutV xs (some (k : Int)) none = xs.drop k := by
  unfold cutV
  rw [HT.sIx_none, HT.sIx_nat]
  rcases Nat.le_total k xs.length with h | h
  · rw [Nat.min_eq_left h, List.take_of_length_le (by rw [List.length_drop]; exact Nat.le_refl _)]
  · rw [Nat.min_eq_right h, List.drop_length, List.take_nil, List.drop_eq_nil_of_le h]
theorem drop_at {α : Type} {l : List α} {i : Nat} {x : α} (h : l[i]? = some x) : l.drop i = x :: l.drop (i + 1) := by
  obtain ⟨hi, e⟩ := List.getElem?_eq_some_iff.mp h
  rw [List.drop_eq_getElem_cons hi, e]
section
variable {P : Program} {w : World} {K : PySem.W.Frag} {mg : Str → Option Value} {base : Heap} {CS CY PA : Addr}

/-! ### mark_moved(place, deed, first): some place -/
def spMark : Sp := fun vs H Q _ => ∃ (n : Nat) (a : Addr) (d : Deed) (f : Bool), vs = [.int n, .ref a, .bl f] ∧ DAt H a d ∧ ∀ (m : Nat) (H' : Hp), Same H H' → Q (.int m) H'
theorem scMark : FnScope ["place", "deed", "first"] ["place", "deed", "first"] (defScope sMark) := ⟨rfl, rfl, rfl, by decide +kernel, rfl, by decide +kernel, by decide +kernel⟩
theorem mv_put (n c : Nat) (o : Deed) (f : Bool) : ∃ m, mv (.put n c) o f = .put m c := by
  cases o <;> simp only [mv] <;> (try split) <;> exact ⟨_, rfl⟩
theorem ok_mark {f : Addr} {fd : FuncData} (F : Fun K "mark_moved" "mark_moved" sMark f fd) (GM : FnG P w K mg base 1 "moved" ["deed", "other", "first"] spMoved) : FnOk P w K mg base CX0 2 f fd ["place", "deed", "first"] spMark := by
  refine F.ok scMark (fun vs H Q E h => ?_) (fun cdv A outer s H vs Q E hr h => ?_)
  · obtain ⟨n, a, d, f, rfl, _⟩ := h
    rfl
  · obtain ⟨n, a, d, ff, rfl, hd, q⟩ := h
    refine ⟨_, pss_one (ps_ret (pe_ix ix_tup (pcall GM hr (by decide) rfl (pa_cons (pe_tup (pa_cons pe_str (pa_cons (pv 0) (pa_cons pe_str pa_nil)))) (pa_cons (pv 1) (pa_cons (pv 2) pa_nil)))) pe_int (fun _ _ => rfl))), ?_⟩
    refine ⟨_, rfl, (by show 3 ≤ sizeLine; decide), fun t h1 => ?_⟩
    refine ⟨_, rfl, _, rfl, ?_⟩
    have s1 := Same.new (.tup [V.str "put", V.int n, V.str " "]) h1
    refine ⟨t, a, .put n 32, d, ff, rfl, upd_same, hd.same s1, fun r H' s' h' => ?_⟩
    obtain ⟨m, em⟩ := mv_put n 32 d ff
    rw [em] at h'
    exact ⟨_, _, _, _, rfl, rfl, SqT.of h', at_of (j := 1) rfl rfl, q m H' (s1.trans s')⟩

/-! ### moved_behind(deed, row, first) -/
def spMovedB : Sp := fun vs H Q _ => ∃ (a l : Addr) (xs : List V) (d : Deed) (ds : List Deed) (f : Bool), vs = [.ref a, .ref l, .bl f] ∧ DAt H a d ∧ H l = some (.lst xs) ∧ DRow H xs ds ∧ xs.length ≤ 1000 ∧
  ∀ (r a' p : Addr) (ys : List V) (H' : Hp), Same H H' → H p = none → H' r = some (.tup [.ref a', .ref p]) → DAt H' a' (mvB d ds f).1 → H' p = some (.lst ys) → DRow H' ys (mvB d ds f).2 → Q (.ref r) H'
theorem scMovedB : FnScope ["deed", "row", "first", "found", "other"] ["deed", "row", "first"] (defScope sMovedB) := ⟨rfl, rfl, rfl, by decide +kernel, rfl, by decide +kernel, by decide +kernel⟩
theorem ok_movedB {f : Addr} {fd : FuncData} (F : Fun K "moved_behind" "moved_behind" sMovedB f fd) (GM : FnG P w K mg base 1 "moved" ["deed", "other", "first"] spMoved) : FnOk P w K mg base CX0 2 f fd ["deed", "row", "first"] spMovedB := by
  refine F.ok scMovedB (fun vs H Q E h => ?_) (fun cdv A outer s H vs Q E hr h => ?_)
  · obtain ⟨a, l, xs, d, ds, f, rfl, _⟩ := h
    rfl
  · obtain ⟨a, l, xs, d, ds, ff, rfl, hd, hl, hrow, hz, q⟩ := h
    have nd := scMovedB.nd
    refine ⟨_, pss_cons (ps_set (i := 3) nd rfl (Or.inl rfl) (pe_lst pa_nil))
      (pss_cons (ps_for PassesOwn.never rfl (pi_list (pv 1)) (pg_name (i := 4) nd rfl (Or.inl rfl))
        (pss_cons (ps_expr (pe_bm PySem.F.plainAttrs_list PySem.F.slot_list_append PySem.F.type_list_append mt_append (pv 3) (pa_cons (pcall GM hr (by decide) rfl (pa_cons (pv 4) (pa_cons (pv 0) (pa_cons (pe_not (pv 2)) pa_nil)))) pa_nil)))
          (pss_one (ps_set (i := 0) nd rfl (Or.inl rfl) (pcall GM hr (by decide) rfl (pa_cons (pv 0) (pa_cons (pv 4) (pa_cons (pv 2) pa_nil))))))))
      (pss_one (ps_ret (pe_tup (pa_cons (pv 0) (pa_cons (pv 3) pa_nil)))))), ?_⟩
    refine ⟨(by show 0 ≤ sizeLine; decide), fun p hp => ?_⟩
    have hxs := hrow.len
    have hlp : l ≠ p := ne_of_none hl hp
    refine ⟨_, rfl, l, rfl, ⟨xs, SqL.of ((upd_ne hlp).trans hl)⟩, for_list (xs := xs)
      (fun i σ H2 => Same H H2 ∧ ∃ (b : Addr) (e : Deed) (x : Option V) (ys : List V) (es : List Deed), σ = [some (.ref b), some (.ref l), some (.bl ff), some (.ref p), x] ∧ DAt H2 b e ∧ H2 p = some (.lst ys) ∧ DRow H2 ys es ∧ ys.length = i ∧
        (mvB d ds ff).1 = (mvB e (ds.drop i) ff).1 ∧ (mvB d ds ff).2 = es ++ (mvB e (ds.drop i) ff).2)
      ⟨Same.new _ hp, a, d, none, [], [], rfl, hd.same (Same.new _ hp), upd_same, trivial, rfl, rfl, rfl⟩ ?_ ?_ ?_⟩
    · rintro i σ H2 _ ⟨s2, _⟩
      exact SqL.of (s2 _ _ hl)
    · rintro i x σ H2 hx ⟨s2, b, e, _, ys, es, rfl, hb, hp2, hys, hi, e1, e2⟩
      obtain ⟨c, o, rfl, ho, hc⟩ := (hrow.keep (TK.of s2)).at hx
      have hlen : i < xs.length := (List.getElem?_eq_some_iff.mp hx).1
      refine ⟨_, rfl, .inl ⟨rfl, _, SqL.of hp2⟩, ?_⟩
      refine ⟨_, rfl, _, rfl, _, rfl, _, rfl, ?_⟩
      refine ⟨c, b, o, e, !ff, rfl, hc, hb, fun r1 H3 s3 h3 => ?_⟩
      have hp3 := s3 _ _ hp2
      have t3 : TK H3 (upd H3 p (.lst (ys ++ [.ref r1]))) := TK.upd _ (NoT.lst hp3)
      refine ⟨p, ys, _, rfl, rfl, hp3, small (by omega), ?_⟩
      refine ⟨_, rfl, _, rfl, _, rfl, b, c, e, o, ff, rfl, t3.d (hb.same s3), t3.d (hc.same s3), fun r2 H4 s4 h4 => ?_⟩
      refine ⟨?_, r2, _, _, _, _, rfl, h4, s4 _ _ upd_same, ((((hys.keep (TK.of s3)).snoc h3).keep t3).keep (TK.of s4)), by simp [hi], ?_, ?_⟩
      · intro z u hz
        refine s4 _ _ ?_
        rw [upd_ne (ne_of_none hz hp)]
        exact s3 _ _ (s2 _ _ hz)
      · rw [e1, drop_at ho]
        rfl
      · rw [e2, drop_at ho, List.append_assoc]
        rfl
    · rintro σ H2 ⟨s2, b, e, _, ys, es, rfl, hb, hp2, hys, hi, e1, e2⟩
      rw [hxs, List.drop_length] at e1 e2
      refine ⟨_, rfl, _, rfl, (by show 2 ≤ sizeLine; decide), fun t ht => ?_⟩
      have s3 := Same.new (.tup [V.ref b, V.ref p]) ht
      refine q t b p ys _ (s2.trans s3) hp upd_same ?_ (s3 _ _ hp2) ?_
      · rw [e1]; exact hb.same s3
      · rw [e2]
        show DRow _ ys (es ++ [])
        rw [List.append_nil]
        exact hys.keep (TK.of s3)
end
end Far
end

section
set_option linter.all false
set_option maxRecDepth 100000
set_option maxHeartbeats 4000000
namespace Far
open PySem PySem.Spec PyProof.Rows L2 FarN FarR
def rm : List Deed → List Deed → List Deed × List Deed
  | [], l => ([], l)
  | d :: r, l => ((mvB d l true).1 :: (rm r (mvB d l true).2).1, (rm r (mvB d l true).2).2)
theorem rm_one (d : Deed) (l : List Deed) : rm [d] l = ([(mvB d l true).1], (mvB d l true).2) := rfl
theorem rm_row (r : List Deed) (b : Deed) : rm r [b] = ((mvB b r false).2, [(mvB b r false).1]) := by
  have e : rm r [b] = ((mvRow r b true).1, [(mvRow r b true).2]) := by
    induction r generalizing b with
    | nil => rfl
    | cons o r ih =>
      show ((mvB o [b] true).1 :: (rm r (mvB o [b] true).2).1, (rm r (mvB o [b] true).2).2) = _
      have e2 : (mvB o [b] true).2 = [mv b o (!true)] := rfl
      rw [e2, ih]
      rfl
  rw [e, mvRow_eq]
  rfl
theorem none_of {H H' : Hp} {p : Addr} (s : Same H H') (h : H' p = none) : H p = none := by
  cases e : H p with
  | none => rfl
  | some u => rw [s _ _ e] at h; cases h
theorem rm_len (a b : List Deed) : (rm a b).1.length = a.length ∧ (rm a b).2.length = b.length := by
  induction a generalizing b with
  | nil => exact ⟨rfl, rfl⟩
  | cons d r ih =>
    obtain ⟨h1, h2⟩ := ih (mvB d b true).2
    exact ⟨by show _ + 1 = _ + 1; rw [h1], h2.trans (mvB_length _ _ _)⟩
section
variable {P : Program} {w : World} {K : PySem.W.Frag} {mg : Str → Option Value} {base : Heap} {CS CY PA : Addr}
/-! ### rows_moved(one, other) -/
def spRowsM : Sp := fun vs H Q _ => ∃ (l1 l2 : Addr) (xs1 xs2 : List V) (d1 d2 : List Deed), vs = [.ref l1, .ref l2] ∧ H l1 = some (.lst xs1) ∧ H l2 = some (.lst xs2) ∧ DRow H xs1 d1 ∧ DRow H xs2 d2 ∧ xs1.length ≤ 1000 ∧ xs2.length ≤ 1000 ∧
  ∀ (r p1 p2 : Addr) (ys1 ys2 : List V) (H' : Hp), Same H H' → H p1 = none → H p2 = none → p1 ≠ p2 → H' r = some (.tup [.ref p1, .ref p2]) → H' p1 = some (.lst ys1) → H' p2 = some (.lst ys2) → DRow H' ys1 (rm d1 d2).1 → DRow H' ys2 (rm d1 d2).2 → Q (.ref r) H'
theorem scRowsM : FnScope ["one", "other", "found", "left", "deed", "told"] ["one", "other"] (defScope sRowsM) := ⟨rfl, rfl, rfl, by decide +kernel, rfl, by decide +kernel, by decide +kernel⟩
theorem ok_rowsM {f : Addr} {fd : FuncData} (F : Fun K "rows_moved" "rows_moved" sRowsM f fd) (T : Txt K w mg CS CY PA) (GB : FnG P w K mg base 2 "moved_behind" ["deed", "row", "first"] spMovedB) : FnOk P w K mg base CX0 3 f fd ["one", "other"] spRowsM := by
  refine F.ok scRowsM (fun vs H Q E h => ?_) (fun cdv A outer s H vs Q E hr h => ?_)
  · obtain ⟨a, l, xs, d, ds, f, rfl, _⟩ := h
    rfl
  · obtain ⟨l1, l2, xs1, xs2, d1, d2, rfl, hl1, hl2, r1, r2, z1, z2, q⟩ := h
    have nd := scRowsM.nd
    refine ⟨_, pss_cons (ps_set (i := 2) nd rfl (Or.inl rfl) (pe_lst pa_nil))
      (pss_cons (ps_set (i := 3) nd rfl (Or.inl rfl) (pe_callTy call_list_of (by rfl) T.list (by decide +kernel) (pa_cons (pv 1) pa_nil)))
      (pss_cons (ps_for PassesOwn.never rfl (pi_list (pv 0)) (pg_name (i := 4) nd rfl (Or.inl rfl))
        (pss_cons (ps_asg (pcall GB hr (by decide) rfl (pa_cons (pv 4) (pa_cons (pv 3) (pa_cons pe_bl pa_nil)))) (pg_tup (by rfl) (pgs_cons (pg_name (i := 5) nd rfl (Or.inl rfl)) (pgs_cons (pg_name (i := 3) nd rfl (Or.inl rfl)) pgs_nil))))
          (pss_one (ps_expr (pe_bm PySem.F.plainAttrs_list PySem.F.slot_list_append PySem.F.type_list_append mt_append (pv 2) (pa_cons (pv 5) pa_nil))))))
      (pss_one (ps_ret (pe_tup (pa_cons (pv 2) (pa_cons (pv 3) pa_nil))))))), ?_⟩
    refine ⟨(by show 0 ≤ sizeLine; decide), fun p hp => ?_⟩
    have s1 := Same.new (.lst []) hp
    refine ⟨_, rfl, l2, xs2, rfl, .inl (SqL.of (s1 _ _ hl2)), fun p2 hp2 => ?_⟩
    have s2 := Same.new (.lst xs2) hp2
    have hne : p2 ≠ p := fun z => by rw [z, upd_same] at hp2; cases hp2
    have hlen := r1.len
    refine ⟨_, rfl, l1, rfl, ⟨xs1, SqL.of (s2 _ _ (s1 _ _ hl1))⟩, for_list (xs := xs1)
      (fun i σ H2 => Same H H2 ∧ ∃ (b : Addr) (x y : Option V) (ys zs : List V) (es fs : List Deed), σ = [some (.ref l1), some (.ref l2), some (.ref p), some (.ref b), x, y] ∧ H b = none ∧ p ≠ b ∧ H2 p = some (.lst ys) ∧ H2 b = some (.lst zs) ∧ DRow H2 ys es ∧ DRow H2 zs fs ∧ ys.length = i ∧ zs.length ≤ 1000 ∧
        (rm d1 d2).1 = es ++ (rm (d1.drop i) fs).1 ∧ (rm d1 d2).2 = (rm (d1.drop i) fs).2)
      ⟨s1.trans s2, p2, none, none, [], xs2, [], d2, rfl, none_of s1 hp2, hne.symm, s2 _ _ upd_same, upd_same, trivial, r2.keep (TK.of (s1.trans s2)), rfl, z2, rfl, rfl⟩ ?_ ?_ ?_⟩
    · rintro i σ H2 _ ⟨s2, _⟩
      exact SqL.of (s2 _ _ hl1)
    · rintro i x σ H2 hx ⟨s3, b, _, _, ys, zs, es, fs, rfl, hb0, hpb, hp3, hb3, hys, hzs, hi, hz, e1, e2⟩
      obtain ⟨c, o, rfl, ho, hc⟩ := (r1.keep (TK.of s3)).at hx
      have hlt : i < xs1.length := (List.getElem?_eq_some_iff.mp hx).1
      refine ⟨_, rfl, _, rfl, c, b, zs, o, fs, true, rfl, hc, hb3, hzs, hz, fun r a' p' ws H4 s4 hn hr4 ha4 hp4 hw4 => ?_⟩
      refine ⟨_, _, rfl, SqT.of hr4, rfl, _, _, rfl, _, _, rfl, rfl, ?_⟩
      have hp4' := s4 _ _ hp3
      have t5 : TK H4 (upd H4 p (.lst (ys ++ [.ref a']))) := TK.upd _ (NoT.lst hp4')
      have hnp : p ≠ p' := fun z => by rw [z, hn] at hp3; cases hp3
      refine ⟨_, rfl, .inl ⟨rfl, _, SqL.of hp4'⟩, _, rfl, p, ys, _, rfl, rfl, hp4', small (by omega), ?_⟩
      refine ⟨fun z u hz => ?_, p', _, _, _, ws, _, _, rfl, (none_of s3 hn), hnp, upd_same, (upd_ne hnp.symm).trans hp4, ((hys.keep (TK.of s4)).snoc ha4).keep t5, hw4.keep t5, by simp [hi], ?_, ?_, ?_⟩
      · rw [upd_ne (ne_of_none hz hp)]
        exact s4 _ _ (s3 _ _ hz)
      · rw [hw4.len, mvB_length, ← hzs.len]
        exact hz
      · rw [e1, drop_at ho, List.append_assoc]
        rfl
      · rw [e2, drop_at ho]
        rfl
    · rintro σ H2 ⟨s3, b, _, _, ys, zs, es, fs, rfl, hb0, hpb, hp3, hb3, hys, hzs, hi, hz, e1, e2⟩
      rw [hlen, List.drop_length] at e1 e2
      refine ⟨_, rfl, _, rfl, (by show 2 ≤ sizeLine; decide), fun t ht => ?_⟩
      have s5 := Same.new (.tup [V.ref p, V.ref b]) ht
      refine q t p b ys zs _ (s3.trans s5) hp hb0 hpb upd_same (s5 _ _ hp3) (s5 _ _ hb3) ?_ ?_
      · rw [e1]
        show DRow _ ys (es ++ [])
        rw [List.append_nil]
        exact hys.keep (TK.of s5)
      · rw [e2]
        exact hzs.keep (TK.of s5)

/-! ### is_letter(thing) of a letter -/
def lv (n t : Nat) (a : Addr) (m : Nat) : List V := [.int n, .int t, .ref a, .int m]
def spIsLetter : Sp := fun vs H Q _ => ∃ (l a : Addr) (d : Deed) (n t m : Nat), vs = [.ref l] ∧ H l = some (.tup (lv n t a m)) ∧ DAt H a d ∧ sgOk d ∧ Q (.bl true) H
theorem scIsLetter : FnScope ["thing"] ["thing"] (defScope sIsLetter) := ⟨rfl, rfl, rfl, by decide +kernel, rfl, by decide +kernel, by decide +kernel⟩
theorem ok_is_letter {f : Addr} {fd : FuncData} (F : Fun K "is_letter" "is_letter" sIsLetter f fd) (T : Txt K w mg CS CY PA) (GD : FnG P w K mg base 2 "is_deed" ["thing"] spIsDeed) (GW : FnG P w K mg base 1 "is_whole" ["thing"] spIsPlace) :
    FnOk P w K mg base CX0 3 f fd ["thing"] spIsLetter := by
  refine F.ok scIsLetter (fun vs H Q E h => ?_) (fun cdv A outer s H vs Q E hr h => ?_)
  · obtain ⟨l, a, d, n, t, m, rfl, _⟩ := h
    rfl
  · obtain ⟨l, a, d, n, t, m, rfl, hl, hd, hs, q⟩ := h
    have ht : SqT K H l (lv n t a m) := SqT.of hl
    refine ⟨_, pss_cons (ps_if (PW.pt (pw_or (pt_not (pt_val (pe_callB call_isi (by rfl) T.isi (by decide +kernel) (pa_cons (pv 0) (pa_cons (pe_bltn (v := .ty "tuple") (by rfl) T.tuple (by decide +kernel) rfl) pa_nil)))))
        (pw_or (pt_cmpR op_ne (pe_callB call_len_seq (by rfl) T.len PySem.boot_len (pa_cons (pv 0) pa_nil)) pe_int (nomark _))
          (pw_or1 (pt_not (pt_val (pcall GD hr (by decide) rfl (pa_cons (pe_ix ix_tup (pv 0) pe_int (fun _ _ => rfl)) pa_nil))))))))
        (pss_one (ps_ret pe_bl)) pss_nil)
      (pss_one (ps_ret (pe_and (pcall GW hr (by decide) rfl (pa_cons (pe_ix ix_tup (pv 0) pe_int (fun _ _ => rfl)) pa_nil)) (pe_and (pcall GW hr (by decide) rfl (pa_cons (pe_ix ix_tup (pv 0) pe_int (fun _ _ => rfl)) pa_nil)) (pe_one (pcall GW hr (by decide) rfl (pa_cons (pe_ix ix_tup (pv 0) pe_int (fun _ _ => rfl)) pa_nil))))))), ?_⟩
    refine ⟨_, rfl, _, _, _, _, true, rfl, .ty _, .base (.tup hl), kit_ty (by decide +kernel), true, rfl, iteF ?_⟩
    refine ⟨_, rfl, _, _, rfl, .inr ht, rfl, false, rfl, iteF ?_⟩
    refine ⟨_, rfl, _, _, _, _, rfl, rfl, ht, at_of (j := 2) rfl rfl, a, d, rfl, hd, hs, true, rfl, iteF ?_⟩
    refine ⟨_, rfl, _, _, _, _, rfl, rfl, ht, at_of (j := 0) rfl rfl, n, rfl, true, rfl, iteT ?_⟩
    refine ⟨_, rfl, _, _, _, _, rfl, rfl, ht, at_of (j := 1) rfl rfl, t, rfl, true, rfl, iteT ?_⟩
    exact ⟨_, rfl, _, _, _, _, rfl, rfl, ht, at_of (j := 3) rfl rfl, m, rfl, q⟩

/-! ### is_seat, need_seat -/
def sn (f : Bool) : Int := if f then 0 else 1
def spIsSeat : Sp := fun vs H Q _ => ∃ f : Bool, vs = [.int (sn f)] ∧ ∀ H', Same H H' → Q (.bl true) H'
theorem scIsSeat : FnScope ["thing"] ["thing"] (defScope sIsSeat) := ⟨rfl, rfl, rfl, by decide +kernel, rfl, by decide +kernel, by decide +kernel⟩
theorem ok_is_seat {f : Addr} {fd : FuncData} (F : Fun K "is_seat" "is_seat" sIsSeat f fd) (T : Txt K w mg CS CY PA) : FnOk P w K mg base CX0 1 f fd ["thing"] spIsSeat := by
  refine F.ok scIsSeat (fun vs H Q E h => ?_) (fun cdv A outer s H vs Q E hr h => ?_)
  · obtain ⟨f, rfl, _⟩ := h
    rfl
  · obtain ⟨ff, rfl, q⟩ := h
    refine ⟨_, pss_one (ps_ret (pe_and (pe_callB call_isi (by rfl) T.isi (by decide +kernel) (pa_cons (pv 0) (pa_cons (pe_bltn (v := .ty "int") (by rfl) T.int (by decide +kernel) rfl) pa_nil)))
      (pe_and (pe_not (pe_callB call_isi (by rfl) T.isi (by decide +kernel) (pa_cons (pv 0) (pa_cons (pe_bltn (v := .ty "bool") (by rfl) T.bool (by decide +kernel) rfl) pa_nil))))
        (pe_one (pe_cmpR op_in_seq (pv 0) (pe_tup (pa_cons pe_int (pa_cons pe_int pa_nil))) (by rfl)))))), ?_⟩
    refine ⟨_, rfl, _, _, _, _, true, rfl, .ty _, .base (.int _), kit_ty (by decide +kernel), true, rfl, iteT ?_⟩
    refine ⟨_, rfl, _, _, _, _, false, rfl, .ty _, .base (.int _), kit_ty (by decide +kernel), false, rfl, true, rfl, iteT ?_⟩
    refine ⟨_, rfl, by show 2 ≤ sizeLine; decide, fun t ht => ?_⟩
    refine ⟨t, _, rfl, .inr (SqT.of upd_same), rfl, ?_, ?_⟩
    · decide
    · have s1 := Same.new (.tup [V.int 0, V.int 1]) ht
      cases ff
      · exact q _ s1
      · exact q _ s1
def spNeed : Sp := fun vs H Q _ => ∃ f : Bool, vs = [.int (sn f)] ∧ ∀ H', Same H H' → Q .non H'
theorem scNeed : FnScope ["thing"] ["thing"] (defScope sNeed) := ⟨rfl, rfl, rfl, by decide +kernel, rfl, by decide +kernel, by decide +kernel⟩
theorem ok_need {f : Addr} {fd : FuncData} (F : Fun K "need_seat" "need_seat" sNeed f fd) (GS : FnG P w K mg base 1 "is_seat" ["thing"] spIsSeat) : FnOk P w K mg base CX0 2 f fd ["thing"] spNeed := by
  refine F.ok scNeed (fun vs H Q E h => ?_) (fun cdv A outer s H vs Q E hr h => ?_)
  · obtain ⟨f, rfl, _⟩ := h
    rfl
  · obtain ⟨ff, rfl, q⟩ := h
    refine ⟨_, pss_one (ps_if (pt_not (pt_val (pcall GS hr (by decide) rfl (pa_cons (pv 0) pa_nil)))) (pss_one ps_never) pss_nil), ?_⟩
    exact ⟨_, rfl, ff, rfl, fun H' s' => ⟨true, rfl, iteF (q H' s')⟩⟩
end
end Far
end

section
set_option linter.all false
set_option maxRecDepth 100000
set_option maxHeartbeats 4000000
namespace Far
open PySem PySem.Spec PyProof.Rows L2 FarN FarR
/-! ### a seat in the heap -/
def sfr (a t m k h w o r : V) : List (Str × V) := [("ahead", a), ("text", t), ("many_made", m), ("many_taken", k), ("heard", h), ("waiting", w), ("own_mark", o), ("far_mark", r)]
theorem pf_text (a t m k h w o r x : V) : putF "text" x (sfr a t m k h w o r) = sfr a x m k h w o r := by rfl
theorem pf_made (a t m k h w o r x : V) : putF "many_made" x (sfr a t m k h w o r) = sfr a t x k h w o r := by rfl
theorem pf_taken (a t m k h w o r x : V) : putF "many_taken" x (sfr a t m k h w o r) = sfr a t m x h w o r := by rfl
theorem pf_heard (a t m k h w o r x : V) : putF "heard" x (sfr a t m k h w o r) = sfr a t m k x w o r := by rfl
theorem pf_waiting (a t m k h w o r x : V) : putF "waiting" x (sfr a t m k h w o r) = sfr a t m k h x o r := by rfl
theorem pf_own (a t m k h w o r x : V) : putF "own_mark" x (sfr a t m k h w o r) = sfr a t m k h w x r := by rfl
theorem pf_far (a t m k h w o r x : V) : putF "far_mark" x (sfr a t m k h w o r) = sfr a t m k h w o x := by rfl
theorem sfl {a t m k h w o r : V} : (sfr a t m k h w o r).length < 1000 := by
  show 8 < 1000
  omega
/-- all but two objects stay -/
def Keep (p w : Addr) (H H' : Hp) : Prop := ∀ (b : Addr) (u : HO), b ≠ p → b ≠ w → H b = some u → H' b = some u
theorem Keep.refl {p w : Addr} (H : Hp) : Keep p w H H := fun _ _ _ _ e => e
theorem Keep.of {p w : Addr} {H H' : Hp} (s : Same H H') : Keep p w H H' := fun b u _ _ e => s _ _ e
theorem Keep.trans {p w : Addr} {H H1 H2 : Hp} (s : Keep p w H H1) (t : Keep p w H1 H2) : Keep p w H H2 := fun b u h1 h2 e => t _ _ h1 h2 (s _ _ h1 h2 e)
theorem Keep.p {p w : Addr} {H H' : Hp} (o : HO) (s : Keep p w H H') : Keep p w H (upd H' p o) := fun b u h1 h2 e => by
  rw [upd_ne h1]; exact s _ _ h1 h2 e
theorem Keep.w {p w : Addr} {H H' : Hp} (o : HO) (s : Keep p w H H') : Keep p w H (upd H' w o) := fun b u h1 h2 e => by
  rw [upd_ne h2]; exact s _ _ h1 h2 e
theorem Keep.s {p w : Addr} {H H' H2 : Hp} (s : Keep p w H H') (t : Same H' H2) : Keep p w H H2 := s.trans (Keep.of t)
theorem Keep.tk {p w : Addr} {H H' : Hp} (s : Keep p w H H') (h1 : NoT (H p)) (h2 : NoT (H w)) : TK H H' := fun a xs e =>
  s _ _ (fun z => h1 xs (by rw [← z]; exact e)) (fun z => h2 xs (by rw [← z]; exact e)) e
/-- the seat at p, its waiting list at w -/
structure SeatIs (CS : Addr) (H : Hp) (p w : Addr) (f : Bool) (S : SeatM) : Prop where
  ins : ∃ (dx : Addr) (m1 m2 : Nat), H p = some (.ins CS dx (sfr (.bl f) (.str (ln S.text)) (.int S.made) (.int S.taken) (.int S.heard) (.ref w) (.int m1) (.int m2)))
  lst : ∃ xs, H w = some (.lst xs) ∧ DRow H xs S.waiting
  sg : ∀ d ∈ S.waiting, sgOk d
theorem SeatIs.ne {CS : Addr} {H : Hp} {p w : Addr} {f : Bool} {S : SeatM} (h : SeatIs CS H p w f S) : p ≠ w := fun z => by
  obtain ⟨dx, m1, m2, h1⟩ := h.ins
  obtain ⟨xs, h2, _⟩ := h.lst
  rw [z, h2] at h1
  injection h1 with h1
  cases h1
theorem SeatIs.noT {CS : Addr} {H : Hp} {p w : Addr} {f : Bool} {S : SeatM} (h : SeatIs CS H p w f S) : NoT (H p) ∧ NoT (H w) := by
  obtain ⟨dx, m1, m2, h1⟩ := h.ins
  obtain ⟨xs, h2, _⟩ := h.lst
  exact ⟨NoT.ins h1, NoT.lst h2⟩
theorem mv_sg {d : Deed} (h : sgOk d) (o : Deed) (f : Bool) : sgOk (mv d o f) := by
  cases d <;> cases o <;> simp only [mv] <;> (try split) <;> (try split) <;> first | exact h | exact trivial
theorem mvB_sg1 {d : Deed} (h : sgOk d) (r : List Deed) (f : Bool) : sgOk (mvB d r f).1 := by
  induction r generalizing d with
  | nil => exact h
  | cons o r ih => exact ih (mv_sg h o f)
theorem mvB_sg2 {d : Deed} {r : List Deed} (h : ∀ o ∈ r, sgOk o) (f : Bool) : ∀ o ∈ (mvB d r f).2, sgOk o := by
  induction r generalizing d with
  | nil => exact fun o ho => nomatch ho
  | cons o r ih =>
    intro x hx
    rcases List.mem_cons.mp hx with e | hx
    · rw [e]; exact mv_sg (h o (List.mem_cons_self ..)) _ _
    · exact ih (fun y hy => h y (List.mem_cons_of_mem _ hy)) x hx
section
variable {P : Program} {w : World} {K : PySem.W.Frag} {mg : Str → Option Value} {base : Heap} {CS CY PA : Addr}

/-! ### Seat.make_in(deed) -/
def spMakeIn (CS : Addr) : Sp := fun vs H Q _ => ∃ (p wa a : Addr) (f : Bool) (S : SeatM) (d : Deed), vs = [.ref p, .ref a] ∧ SeatIs CS H p wa f S ∧ DAt H a d ∧ sgOk d ∧ ok d S.text ∧ S.text.length ≤ 900 ∧ S.waiting.length ≤ 900 ∧
  ∀ (r : Addr) (m : Nat) (H' : Hp), Keep p wa H H' → SeatIs CS H' p wa f (makeM S d) → H' r = some (.tup (lv S.made S.taken a m)) → Q (.ref r) H'
theorem scMakeIn : FnScope ["self", "deed", "letter"] ["self", "deed"] (defScope sMakeIn) := ⟨rfl, rfl, rfl, by decide +kernel, rfl, by decide +kernel, by decide +kernel⟩
theorem ok_make_in {f : Addr} {fd : FuncData} (F : Fun K "make_in" "Seat.make_in" sMakeIn f fd) (T : Txt K w mg CS CY PA) (GD : FnG P w K mg base 4 "done" ["line", "deed"] spDone) (GM : FnG P w K mg base 2 "mark_moved" ["place", "deed", "first"] spMark) :
    FnOk P w K mg base CX0 5 f fd ["self", "deed"] (spMakeIn CS) := by
  refine F.ok scMakeIn (fun vs H Q E h => ?_) (fun cdv A outer s H vs Q E hr h => ?_)
  · obtain ⟨p, wa, a, f, S, d, rfl, _⟩ := h
    rfl
  · obtain ⟨p, wa, a, ff, S, d, rfl, hS, hd, hs, ho, hl, hwl, q⟩ := h
    have nd := scMakeIn.nd
    refine ⟨_, pss_cons (ps_fld (pv 0) (pcall GD hr (by decide) rfl (pa_cons (pe_fld (pv 0) rfl) (pa_cons (pv 1) pa_nil))) rfl)
      (Evl.pss_cut (ps_if (pt_cmpR op_eq (pe_ix ix_tup (pv 1) pe_int (fun _ _ => rfl)) pe_str (nomark _)) (pss_one (ps_fld (pv 0) (pe_op op_add (pe_ix ix_tup (pv 1) pe_int (fun _ _ => rfl)) pe_int) rfl))
        (pss_one (ps_if (pt_cmpR op_eq (pe_ix ix_tup (pv 1) pe_int (fun _ _ => rfl)) pe_str (nomark _)) (pss_one (ps_fld (pv 0) (pe_ix ix_tup (pv 1) pe_int (fun _ _ => rfl)) rfl)) pss_nil)))
      (pss_cons (ps_fld (pv 0) (pcall GM hr (by decide) rfl (pa_cons (pe_fld (pv 0) rfl) (pa_cons (pv 1) (pa_cons (pe_not (pe_fld (pv 0) rfl)) pa_nil)))) rfl)
      (pss_cons (ps_expr (pe_bm PySem.F.plainAttrs_list PySem.F.slot_list_append PySem.F.type_list_append mt_append (pe_fld (pv 0) rfl) (pa_cons (pv 1) pa_nil)))
      (pss_cons (ps_set (i := 2) nd rfl (Or.inl rfl) (pe_tup (pa_cons (pe_fld (pv 0) rfl) (pa_cons (pe_fld (pv 0) rfl) (pa_cons (pv 1) (pa_cons (pe_fld (pv 0) rfl) pa_nil))))))
      (pss_cons (ps_fldaug (pv 0) pe_int in_add)
      (pss_one (ps_ret (pv 2)))))))), ?_⟩
    obtain ⟨dx, m1, m2, h0⟩ := hS.ins
    obtain ⟨xs, hw0, hrow⟩ := hS.lst
    have hpw := hS.ne
    have nT := hS.noT
    refine ⟨_, rfl, p, CS, dx, _, _, rfl, h0, T.clS, T.nText, rfl, _, rfl, S.text, a, d, rfl, hd, hs, ho, hl, ?_⟩
    refine ⟨_, rfl, p, CS, dx, _, rfl, h0, T.clS, T.nText, sfl, ?_⟩
    rw [pf_text]
    generalize hH1 : upd H p (.ins CS dx _) = H1
    have k1 : Keep p wa H H1 := hH1 ▸ (Keep.refl H).p _
    have p1 : H1 p = some (.ins CS dx (sfr (.bl ff) (.str (ln (app d S.text))) (.int S.made) (.int S.taken) (.int S.heard) (.ref wa) (.int m1) (.int m2))) := hH1 ▸ upd_same
    have w1 : H1 wa = some (.lst xs) := by rw [← hH1, upd_ne hpw.symm]; exact hw0
    have t1 : SqT K H1 a (dv d) := SqT.of ((k1.tk nT.1 nT.2).d hd)
    refine ⟨fun σ' H' => σ' = [some (.ref p), some (.ref a), none] ∧ Keep p wa H H' ∧ H' wa = some (.lst xs) ∧ ∃ m : Nat, H' p = some (.ins CS dx (sfr (.bl ff) (.str (ln (app d S.text))) (.int S.made) (.int S.taken) (.int S.heard) (.ref wa) (.int m) (.int m2))), ?_, ?_⟩
    · cases d with
      | put pl c =>
        refine ⟨_, rfl, _, _, _, _, rfl, rfl, t1, at_of (j := 0) rfl rfl, rfl, true, by decide +kernel, iteT ?_⟩
        refine ⟨_, rfl, _, _, _, _, rfl, rfl, t1, at_of (j := 1) rfl rfl, _, _, rfl, rfl, _, rfl, p, CS, dx, _, rfl, p1, T.clS, T.nOwn, sfl, ?_⟩
        rw [pf_own]
        exact ⟨rfl, k1.p _, (upd_ne hpw.symm).trans w1, pl + 1, upd_same⟩
      | cut pl =>
        refine ⟨_, rfl, _, _, _, _, rfl, rfl, t1, at_of (j := 0) rfl rfl, rfl, false, by decide +kernel, iteF ?_⟩
        refine ⟨_, rfl, _, _, _, _, rfl, rfl, t1, at_of (j := 0) rfl rfl, rfl, true, by decide +kernel, iteT ?_⟩
        refine ⟨_, rfl, _, _, _, _, rfl, rfl, t1, at_of (j := 1) rfl rfl, _, rfl, p, CS, dx, _, rfl, p1, T.clS, T.nOwn, sfl, ?_⟩
        rw [pf_own]
        exact ⟨rfl, k1.p _, (upd_ne hpw.symm).trans w1, pl, upd_same⟩
      | non =>
        refine ⟨_, rfl, _, _, _, _, rfl, rfl, t1, at_of (j := 0) rfl rfl, rfl, false, by decide +kernel, iteF ?_⟩
        refine ⟨_, rfl, _, _, _, _, rfl, rfl, t1, at_of (j := 0) rfl rfl, rfl, false, by decide +kernel, iteF ?_⟩
        exact ⟨rfl, k1, w1, m1, p1⟩
    · rintro σ' H2 ⟨rfl, k2, w2, m, p2⟩
      refine ⟨_, rfl, p, CS, dx, _, _, rfl, p2, T.clS, T.nFar, rfl, _, rfl, _, rfl, p, CS, dx, _, _, rfl, p2, T.clS, T.nAhead, rfl, _, rfl, ?_⟩
      refine ⟨m2, a, d, !ff, rfl, (k2.tk nT.1 nT.2).d hd, fun m3 H3 s3 => ?_⟩
      have p3 := s3 _ _ p2
      refine ⟨_, rfl, p, CS, dx, _, rfl, p3, T.clS, T.nFar, sfl, ?_⟩
      rw [pf_far]
      generalize hH4 : upd H3 p (.ins CS dx _) = H4
      have k4 : Keep p wa H H4 := hH4 ▸ (k2.s s3).p _
      have p4 : H4 p = some (.ins CS dx (sfr (.bl ff) (.str (ln (app d S.text))) (.int S.made) (.int S.taken) (.int S.heard) (.ref wa) (.int m) (.int m3))) := hH4 ▸ upd_same
      have w4 : H4 wa = some (.lst xs) := by rw [← hH4, upd_ne hpw.symm]; exact s3 _ _ w2
      refine ⟨_, rfl, p, CS, dx, _, _, rfl, p4, T.clS, T.nWaiting, rfl, .inl ⟨rfl, _, SqL.of w4⟩, _, rfl, wa, xs, _, rfl, rfl, w4, small (by rw [hrow.len]; omega), ?_⟩
      generalize hH5 : upd H4 wa (.lst (xs ++ [.ref a])) = H5
      have k5 : Keep p wa H H5 := hH5 ▸ k4.w _
      have p5 : H5 p = some (.ins CS dx (sfr (.bl ff) (.str (ln (app d S.text))) (.int S.made) (.int S.taken) (.int S.heard) (.ref wa) (.int m) (.int m3))) := by rw [← hH5, upd_ne hpw]; exact p4
      have w5 : H5 wa = some (.lst (xs ++ [.ref a])) := hH5 ▸ upd_same
      refine ⟨_, rfl, p, CS, dx, _, _, rfl, p5, T.clS, T.nMade, rfl, _, rfl, p, CS, dx, _, _, rfl, p5, T.clS, T.nTaken, rfl, _, rfl, _, rfl, p, CS, dx, _, _, rfl, p5, T.clS, T.nOwn, rfl, (by show 4 ≤ sizeLine; decide), fun l hl2 => ?_⟩
      have s6 := Same.new (.tup (lv S.made S.taken a m)) hl2
      have p6 := s6 _ _ p5
      refine ⟨_, rfl, p, CS, dx, _, _, rfl, p6, T.clS, T.nMade, rfl, _, _, rfl, rfl, dx, _, p6, sfl, ?_⟩
      rw [pf_made]
      have hlp : l ≠ p := (ne_of_none p5 hl2).symm
      have hlw : l ≠ wa := (ne_of_none w5 hl2).symm
      have k7 := (k5.s s6).p (.ins CS dx (sfr (.bl ff) (.str (ln (app d S.text))) (.int ((S.made : Int) + 1)) (.int S.taken) (.int S.heard) (.ref wa) (.int m) (.int m3)))
      refine ⟨_, rfl, q l m _ k7 ⟨⟨dx, m, m3, upd_same⟩, ⟨_, (upd_ne hpw.symm).trans (s6 _ _ w5), (hrow.keep (k7.tk nT.1 nT.2)).snoc ((k7.tk nT.1 nT.2).d hd)⟩, fun x hx => ?_⟩ ((upd_ne hlp).trans upd_same)⟩
      rcases List.mem_append.mp hx with z | z
      · exact hS.sg x z
      · rw [List.mem_singleton.mp z]; exact hs
end
end Far
end

section
set_option linter.all false
set_option maxRecDepth 100000
set_option maxHeartbeats 4000000
namespace Far
open PySem PySem.Spec PyProof.Rows L2 FarN FarR
section
variable {P : Program} {w : World} {K : PySem.W.Frag} {mg : Str → Option Value} {base : Heap} {CS CY PA : Addr}

/-! ### Seat.past(deed, waiting) -/
def spPast (CS : Addr) : Sp := fun vs H Q _ => ∃ (p a l dx : Addr) (fs : List (Str × V)) (f : Bool) (xs : List V) (d : Deed) (ds : List Deed), vs = [.ref p, .ref a, .ref l] ∧ H p = some (.ins CS dx fs) ∧ fs.lookup ("ahead" : Str) = some (V.bl f) ∧ DAt H a d ∧ H l = some (.lst xs) ∧ DRow H xs ds ∧ xs.length ≤ 900 ∧
  ∀ (r a' p' : Addr) (ys : List V) (H' : Hp), Same H H' → H p' = none → H' r = some (.tup [.ref a', .ref p']) → DAt H' a' (mvB d ds (!f)).1 → H' p' = some (.lst ys) → DRow H' ys (mvB d ds (!f)).2 → Q (.ref r) H'
theorem scPast : FnScope ["self", "deed", "waiting", "deeds"] ["self", "deed", "waiting"] (defScope sPast) := ⟨rfl, rfl, rfl, by decide +kernel, rfl, by decide +kernel, by decide +kernel⟩
theorem drow_one {H : Hp} {ys : List V} {d : Deed} (h : DRow H ys [d]) : ∃ a, ys = [.ref a] ∧ DAt H a d := by
  match ys, h with
  | [.ref a], h => exact ⟨a, rfl, h.1⟩
  | .ref a :: b :: r, h => cases b <;> exact h.2.elim
theorem ok_past {f : Addr} {fd : FuncData} (F : Fun K "past" "Seat.past" sPast f fd) (T : Txt K w mg CS CY PA) (GR : FnG P w K mg base 3 "rows_moved" ["one", "other"] spRowsM) :
    FnOk P w K mg base CX0 4 f fd ["self", "deed", "waiting"] (spPast CS) := by
  refine F.ok scPast (fun vs H Q E h => ?_) (fun cdv A outer s H vs Q E hr h => ?_)
  · obtain ⟨p, a, l, dx, fs, f, xs, d, ds, rfl, _⟩ := h
    rfl
  · obtain ⟨p, a, l, dx, fs, ff, xs, d, ds, rfl, hp, hf, hd, hl, hrow, hz, q⟩ := h
    have nd := scPast.nd
    refine ⟨_, Evl.pss_cut (ps_if (pt_val (pe_fld (pv 0) rfl))
        (pss_one (ps_asg (pcall GR hr (by decide) rfl (pa_cons (pv 2) (pa_cons (pe_lst (pa_cons (pv 1) pa_nil)) pa_nil))) (pg_tup (by rfl) (pgs_cons (pg_name (i := 2) nd rfl (Or.inl rfl)) (pgs_cons (pg_name (i := 3) nd rfl (Or.inl rfl)) pgs_nil)))))
        (pss_one (ps_asg (pcall GR hr (by decide) rfl (pa_cons (pe_lst (pa_cons (pv 1) pa_nil)) (pa_cons (pv 2) pa_nil))) (pg_tup (by rfl) (pgs_cons (pg_name (i := 3) nd rfl (Or.inl rfl)) (pgs_cons (pg_name (i := 2) nd rfl (Or.inl rfl)) pgs_nil))))))
      (pss_one (ps_ret (pe_tup (pa_cons (pe_ix ix_list (pv 3) pe_int (fun _ _ => rfl)) (pa_cons (pv 2) pa_nil))))), ?_⟩
    refine ⟨fun σ' H' => ∃ (pw pd a' : Addr) (ys : List V), σ' = [some (.ref p), some (.ref a), some (.ref pw), some (.ref pd)] ∧ Same H H' ∧ H pw = none ∧ H' pw = some (.lst ys) ∧ DRow H' ys (mvB d ds (!ff)).2 ∧ H' pd = some (.lst [.ref a']) ∧ DAt H' a' (mvB d ds (!ff)).1, ?_, ?_⟩
    · refine ⟨_, rfl, p, CS, dx, fs, _, rfl, hp, T.clS, T.nAhead, hf, ff, rfl, ?_⟩
      cases ff with
      | true =>
        refine iteT ⟨_, rfl, _, rfl, (by show 1 ≤ sizeLine; decide), fun q1 hq1 => ?_⟩
        have s1 := Same.new (.lst [.ref a]) hq1
        refine ⟨l, q1, xs, [.ref a], ds, [d], rfl, s1 _ _ hl, upd_same, hrow.keep (TK.of s1), ⟨hd.same s1, trivial⟩, by omega, by show 1 ≤ 1000; omega, fun r p1 p2 ys1 ys2 H' s' n1 n2 hne hr' h1 h2 r1 r2 => ?_⟩
        rw [rm_row] at r1 r2
        obtain ⟨a', rfl, ha'⟩ := drow_one r2
        exact ⟨_, _, rfl, SqT.of hr', rfl, _, _, rfl, _, _, rfl, rfl, p1, p2, a', ys1, rfl, s1.trans s', none_of s1 n1, h1, r1, h2, ha'⟩
      | false =>
        refine iteF ⟨_, rfl, (by show 1 ≤ sizeLine; decide), fun q1 hq1 => ⟨_, rfl, ?_⟩⟩
        have s1 := Same.new (.lst [.ref a]) hq1
        refine ⟨q1, l, [.ref a], xs, [d], ds, rfl, upd_same, s1 _ _ hl, ⟨hd.same s1, trivial⟩, hrow.keep (TK.of s1), by show 1 ≤ 1000; omega, by omega, fun r p1 p2 ys1 ys2 H' s' n1 n2 hne hr' h1 h2 r1 r2 => ?_⟩
        rw [rm_one] at r1 r2
        obtain ⟨a', rfl, ha'⟩ := drow_one r1
        exact ⟨_, _, rfl, SqT.of hr', rfl, _, _, rfl, _, _, rfl, rfl, p2, p1, a', ys2, rfl, s1.trans s', none_of s1 n2, h2, r2, h1, ha'⟩
    · rintro σ' H' ⟨pw, pd, a', ys, rfl, s', hn, h1, r1, h2, ha'⟩
      refine ⟨_, rfl, _, _, _, _, rfl, rfl, SqL.of h2, at_of (j := 0) rfl rfl, _, rfl, (by show 2 ≤ sizeLine; decide), fun t ht => ?_⟩
      have s2 := Same.new (.tup [.ref a', .ref pw]) ht
      exact q t a' pw ys _ (s'.trans s2) hn upd_same (ha'.same s2) (s2 _ _ h1) (r1.keep (TK.of s2))

/-! ### Seat.__init__(number, line) -/
def spSeatInit (CS : Addr) : Sp := fun vs H Q _ => ∃ (p dx : Addr) (f : Bool) (l : List Nat), vs = [.ref p, .int (sn f), .str (ln l)] ∧ H p = some (.ins CS dx []) ∧ l.length ≤ 900 ∧
  ∀ (wa : Addr) (H' : Hp), Keep p p H H' → H wa = none → SeatIs CS H' p wa f ⟨l, 0, 0, 0, []⟩ → Q .non H'
theorem scSeatInit : FnScope ["self", "number", "line"] ["self", "number", "line"] (defScope sSeatInit) := ⟨rfl, rfl, rfl, by decide +kernel, rfl, by decide +kernel, by decide +kernel⟩
theorem ok_seat_init {f : Addr} {fd : FuncData} (F : Fun K "__init__" "Seat.__init__" sSeatInit f fd) (T : Txt K w mg CS CY PA) : FnOk P w K mg base CX0 1 f fd ["self", "number", "line"] (spSeatInit CS) := by
  refine F.ok scSeatInit (fun vs H Q E h => ?_) (fun cdv A outer s H vs Q E hr h => ?_)
  · obtain ⟨p, dx, f, l, rfl, _⟩ := h
    rfl
  · obtain ⟨p, dx, ff, l, rfl, hp, hz, q⟩ := h
    have hz' : (ln l).length ≤ sizeLine := by rw [ln_length]; exact small' (by omega)
    refine ⟨_, pss_cons (ps_fld (pv 0) (pe_cmpR op_eq (pv 1) pe_int (nomark _)) rfl)
      (pss_cons (ps_fld (pv 0) (pv 2) rfl) (pss_cons (ps_fld (pv 0) pe_int rfl) (pss_cons (ps_fld (pv 0) pe_int rfl) (pss_cons (ps_fld (pv 0) pe_int rfl)
      (pss_cons (ps_fld (pv 0) (pe_lst pa_nil) rfl)
      (pss_cons (ps_fld (pv 0) (pe_callB call_len_str (by rfl) T.len PySem.boot_len (pa_cons (pv 2) pa_nil)) rfl)
      (pss_one (ps_fld (pv 0) (pe_callB call_len_str (by rfl) T.len PySem.boot_len (pa_cons (pv 2) pa_nil)) rfl)))))))), ?_⟩
    refine ⟨_, rfl, rfl, _, rfl, p, CS, dx, _, rfl, hp, T.clS, T.nAhead, by show 0 < 1000; omega, ?_⟩
    refine ⟨_, rfl, _, rfl, p, CS, dx, _, rfl, upd_same, T.clS, T.nText, by show 1 < 1000; omega, ?_⟩
    refine ⟨_, rfl, p, CS, dx, _, rfl, upd_same, T.clS, T.nMade, by show 2 < 1000; omega, ?_⟩
    refine ⟨_, rfl, p, CS, dx, _, rfl, upd_same, T.clS, T.nTaken, by show 3 < 1000; omega, ?_⟩
    refine ⟨_, rfl, p, CS, dx, _, rfl, upd_same, T.clS, T.nHeard, by show 4 < 1000; omega, ?_⟩
    refine ⟨by show 0 ≤ sizeLine; decide, fun wl hw => ?_⟩
    have hpw : wl ≠ p := fun z => by rw [z, upd_same] at hw; cases hw
    rw [upd_ne hpw, upd_ne hpw, upd_ne hpw, upd_ne hpw, upd_ne hpw] at hw
    refine ⟨_, rfl, p, CS, dx, _, rfl, (upd_ne hpw.symm).trans upd_same, T.clS, T.nWaiting, by show 5 < 1000; omega, ?_⟩
    refine ⟨_, rfl, _, rfl, hz', _, rfl, p, CS, dx, _, rfl, upd_same, T.clS, T.nOwn, by show 6 < 1000; omega, ?_⟩
    refine ⟨_, rfl, _, rfl, hz', _, rfl, p, CS, dx, _, rfl, upd_same, T.clS, T.nFar, by show 7 < 1000; omega, ?_⟩
    refine q wl _ (fun b u h1 _ e => ?_) hw ⟨⟨dx, (ln l).length, (ln l).length, ?_⟩, ⟨[], ?_, trivial⟩, fun d hd => nomatch hd⟩
    · rw [upd_ne h1, upd_ne h1, upd_ne h1, upd_ne (ne_of_none e hw), upd_ne h1, upd_ne h1, upd_ne h1, upd_ne h1, upd_ne h1]
      exact e
    · rw [upd_same]
      have e : decide (V.int (sn ff) = V.int 0) = ff := by cases ff <;> decide
      rw [e]
      rfl
    · rw [upd_ne hpw, upd_ne hpw, upd_ne hpw, upd_same]

/-! ### Seat.shown() -/
def spShown (CS : Addr) : Sp := fun vs H Q _ => ∃ (p wa : Addr) (f : Bool) (S : SeatM), vs = [.ref p] ∧ SeatIs CS H p wa f S ∧ Q (.str (ln S.text)) H
theorem scShown : FnScope ["self"] ["self"] (defScope sShown) := ⟨rfl, rfl, rfl, by decide +kernel, rfl, by decide +kernel, by decide +kernel⟩
theorem ok_shown {f : Addr} {fd : FuncData} (F : Fun K "shown" "Seat.shown" sShown f fd) (T : Txt K w mg CS CY PA) : FnOk P w K mg base CX0 1 f fd ["self"] (spShown CS) := by
  refine F.ok scShown (fun vs H Q E h => ?_) (fun cdv A outer s H vs Q E hr h => ?_)
  · obtain ⟨p, wa, f, S, rfl, _⟩ := h
    rfl
  · obtain ⟨p, wa, ff, S, rfl, hS, q⟩ := h
    obtain ⟨dx, m1, m2, hp⟩ := hS.ins
    refine ⟨_, pss_one (ps_ret (pe_fld (pv 0) rfl)), ?_⟩
    exact ⟨_, rfl, p, CS, dx, _, _, rfl, hp, T.clS, T.nText, rfl, q⟩
end
end Far
end

section
set_option linter.all false
set_option maxRecDepth 100000
set_option maxHeartbeats 4000000
namespace Far
open PySem PySem.Spec PyProof.Rows L2 FarN FarR
section
variable {P : Program} {w : World} {K : PySem.W.Frag} {mg : Str → Option Value} {base : Heap} {CS CY PA : Addr}
theorem none_keep {p wa b : Addr} {H H' : Hp} (k : Keep p wa H H') (h1 : b ≠ p) (h2 : b ≠ wa) (h : H' b = none) : H b = none := by
  cases e : H b with
  | none => rfl
  | some u => rw [k b u h1 h2 e] at h; cases h
/-! ### Seat.take_in(letter) -/
def spTakeIn (CS : Addr) : Sp := fun vs H Q _ => ∃ (p wa l a : Addr) (f : Bool) (S : SeatM) (x : LetterM) (m : Nat), vs = [.ref p, .ref l] ∧ SeatIs CS H p wa f S ∧ H l = some (.tup (lv x.n x.t a m)) ∧ DAt H a x.d ∧ sgOk x.d ∧
  x.n = S.taken ∧ S.heard ≤ x.t ∧ x.t ≤ S.made ∧ ok (pastM (!f) S x).1 S.text ∧ S.text.length ≤ 900 ∧ S.waiting.length ≤ 900 ∧
  ∀ (r wa' : Addr) (H' : Hp), Keep p wa H H' → H wa' = none → SeatIs CS H' p wa' f (takeM (!f) S x) → Q (.ref r) H'
theorem scTakeIn : FnScope ["self", "letter", "deed", "waiting", "other"] ["self", "letter"] (defScope sTakeIn) := ⟨rfl, rfl, rfl, by decide +kernel, rfl, by decide +kernel, by decide +kernel⟩
theorem ok_take_in {f : Addr} {fd : FuncData} (F : Fun K "take_in" "Seat.take_in" sTakeIn f fd) (T : Txt K w mg CS CY PA) (GL : FnG P w K mg base 3 "is_letter" ["thing"] spIsLetter) (GC : FnG P w K mg base 3 "can_be_done" ["line", "deed"] spCan)
    (GD : FnG P w K mg base 4 "done" ["line", "deed"] spDone) (GM : FnG P w K mg base 2 "mark_moved" ["place", "deed", "first"] spMark) (GP : MtG P w K mg base CS 4 "past" ["self", "deed", "waiting"] (spPast CS)) :
    FnOk P w K mg base CX0 5 f fd ["self", "letter"] (spTakeIn CS) := by
  refine F.ok scTakeIn (fun vs H Q E h => ?_) (fun cdv A outer s H vs Q E hr h => ?_)
  · obtain ⟨p, wa, l, a, f, S, x, m, rfl, _⟩ := h
    rfl
  · obtain ⟨p, wa, l, a, ff, S, x, m, rfl, hS, hl, hd, hs, hn, ht1, ht2, hok, hz, hwz, q⟩ := h
    have nd := scTakeIn.nd
    have L := fun {H' : Hp} (h : H' l = some (.tup (lv x.n x.t a m))) => (SqT.of h : SqT K H' l (lv x.n x.t a m))
    refine ⟨_, pss_cons (ps_if (PW.pt (pw_or (pt_not (pt_val (pcall GL hr (by decide) rfl (pa_cons (pv 1) pa_nil)))) (pw_or1 (pt_cmpR op_ne (pe_ix ix_tup (pv 1) pe_int (fun _ _ => rfl)) (pe_fld (pv 0) rfl) (nomark _))))) (pss_one ps_never) pss_nil)
      (pss_cons (ps_if (pt_not (pt_chain op_le op_le (pe_fld (pv 0) rfl) (pe_ix ix_tup (pv 1) pe_int (fun _ _ => rfl)) (pe_fld (pv 0) rfl))) (pss_one ps_never) pss_nil)
      (pss_cons (ps_asg (pmeth GP T.clS hr (by decide) (pv 0) (pa_cons (pe_ix ix_tup (pv 1) pe_int (fun _ _ => rfl)) (pa_cons (pe_slice sl_list (pe_fld (pv 0) rfl) (po_some (pe_op op_sub (pe_ix ix_tup (pv 1) pe_int (fun _ _ => rfl)) (pe_fld (pv 0) rfl))) po_none) pa_nil)))
        (pg_tup (by rfl) (pgs_cons (pg_name (i := 2) nd rfl (Or.inl rfl)) (pgs_cons (pg_name (i := 3) nd rfl (Or.inl rfl)) pgs_nil))))
      (pss_cons (ps_if (pt_not (pt_val (pcall GC hr (by decide) rfl (pa_cons (pe_fld (pv 0) rfl) (pa_cons (pv 2) pa_nil))))) (pss_one ps_never) pss_nil)
      (pss_cons (ps_fld (pv 0) (pcall GD hr (by decide) rfl (pa_cons (pe_fld (pv 0) rfl) (pa_cons (pv 2) pa_nil))) rfl)
      (pss_cons (ps_fld (pv 0) (pcall GM hr (by decide) rfl (pa_cons (pe_fld (pv 0) rfl) (pa_cons (pv 2) (pa_cons (pe_fld (pv 0) rfl) pa_nil)))) rfl)
      (pss_cons (ps_fld (pv 0) (pe_ix ix_tup (pv 1) pe_int (fun _ _ => rfl)) rfl)
      (pss_cons (ps_for PassesOwn.never rfl (pi_list (pv 3)) (pg_name (i := 4) nd rfl (Or.inl rfl))
        (pss_one (ps_fld (pv 0) (pcall GM hr (by decide) rfl (pa_cons (pe_fld (pv 0) rfl) (pa_cons (pv 4) (pa_cons (pe_not (pe_fld (pv 0) rfl)) pa_nil)))) rfl)))
      (pss_cons (ps_fld (pv 0) (pe_ix ix_tup (pv 1) pe_int (fun _ _ => rfl)) rfl)
      (pss_cons (ps_fldaug (pv 0) pe_int in_add)
      (pss_cons (ps_fld (pv 0) (pv 3) rfl)
      (pss_one (ps_ret (pv 2))))))))))))), ?_⟩
    obtain ⟨dx, m1, m2, h0⟩ := hS.ins
    obtain ⟨xs, hw0, hrow⟩ := hS.lst
    have hpw := hS.ne
    have nT := hS.noT
    -- the two refusals
    refine ⟨_, rfl, l, a, x.d, x.n, x.t, m, rfl, hl, hd, hs, true, rfl, iteF ?_⟩
    refine ⟨_, rfl, _, _, _, _, rfl, rfl, L hl, at_of (j := 0) rfl rfl, _, rfl, p, CS, dx, _, _, rfl, h0, T.clS, T.nTaken, rfl, rfl, _, rfl, ?_⟩
    rw [hn, decide_eq_true (show (V.int (S.taken : Int)) = V.int (S.taken : Int) from rfl)]
    refine iteF ?_
    refine ⟨_, rfl, p, CS, dx, _, _, rfl, h0, T.clS, T.nHeard, rfl, _, rfl, _, _, _, _, rfl, rfl, L hl, at_of (j := 1) rfl rfl, _, _, rfl, rfl, _, rfl, iteD (by omega) ?_⟩
    refine ⟨_, rfl, p, CS, dx, _, _, rfl, h0, T.clS, T.nMade, rfl, _, _, rfl, rfl, _, rfl, ?_⟩
    rw [decide_eq_true (show (x.t : Int) ≤ S.made by omega)]
    refine iteF ?_
    have hk : ((x.t : Int) - (S.heard : Int)) = ((x.t - S.heard : Nat) : Int) := by omega
    refine ⟨_, rfl, p, dx, _, rfl, h0, rfl, _, rfl, _, _, _, _, rfl, rfl, L hl, at_of (j := 2) rfl rfl, _, rfl, p, CS, dx, _, _, rfl, h0, T.clS, T.nWaiting, rfl, _, rfl, _, _, _, _, rfl, rfl, L hl, at_of (j := 1) rfl rfl, _, rfl, p, CS, dx, _, _, rfl, h0, T.clS, T.nHeard, rfl, _, _, rfl, rfl, ((x.t - S.heard : Nat) : Int), congrArg V.int hk, wa, xs, rfl, SqL.of hw0, fun q1 hq1 => ?_⟩
    rw [cutV_from]
    have s1 := Same.new (.lst (xs.drop (x.t - S.heard))) hq1
    refine ⟨p, a, q1, dx, _, ff, _, x.d, _, rfl, s1 _ _ h0, rfl, hd.same s1, upd_same, (hrow.drop (x.t - S.heard)).keep (TK.of s1), by rw [List.length_drop, hrow.len]; omega, fun r a' p' ys H1 s2 hn1 hr1 ha1 hp1 hrow1 => ?_⟩
    have hd' : (mvB x.d (S.waiting.drop (x.t - S.heard)) (!ff)) = pastM (!ff) S x := rfl
    rw [hd'] at ha1 hrow1
    have hsg1 : sgOk (pastM (!ff) S x).1 := mvB_sg1 hs _ _
    have hsg2 : ∀ o ∈ (pastM (!ff) S x).2, sgOk o := mvB_sg2 (fun o ho => hS.sg o (List.mem_of_mem_drop ho)) _
    have hwl : (pastM (!ff) S x).2.length ≤ 900 := by
      show (mvB _ _ _).2.length ≤ 900
      rw [mvB_length, List.length_drop]; omega
    have eT : takeM (!ff) S x = ⟨app (pastM (!ff) S x).1 S.text, S.made, S.taken + 1, x.t, (pastM (!ff) S x).2⟩ := rfl
    rw [eT] at q
    generalize pastM (!ff) S x = pm at hok ha1 hrow1 hsg1 hsg2 hwl q
    have s3 := s1.trans s2
    have k1 : Keep p wa H H1 := Keep.of s3
    have hp0 : H p' = none := none_of s1 hn1
    have hpp : p' ≠ p := (ne_of_none h0 hp0).symm
    have hp1' := s3 _ _ h0
    refine ⟨_, _, rfl, SqT.of hr1, rfl, _, _, rfl, _, _, rfl, rfl, ?_⟩
    refine ⟨_, rfl, p, CS, dx, _, _, rfl, hp1', T.clS, T.nText, rfl, _, rfl, S.text, a', pm.1, rfl, ha1, hsg1, hok, by omega, true, rfl, iteF ?_⟩
    refine ⟨_, rfl, p, CS, dx, _, _, rfl, hp1', T.clS, T.nText, rfl, _, rfl, S.text, a', pm.1, rfl, ha1, hsg1, hok, hz, _, rfl, p, CS, dx, _, rfl, hp1', T.clS, T.nText, sfl, ?_⟩
    rw [pf_text]
    generalize hH2 : upd H1 p (.ins CS dx _) = H2
    have k2 : Keep p wa H H2 := hH2 ▸ k1.p _
    have p2 : H2 p = some (.ins CS dx (sfr (.bl ff) (.str (ln (app pm.1 S.text))) (.int S.made) (.int S.taken) (.int S.heard) (.ref wa) (.int m1) (.int m2))) := hH2 ▸ upd_same
    have t2 : TK H1 H2 := hH2 ▸ TK.upd _ (NoT.ins hp1')
    have w2 : H2 p' = some (.lst ys) := by rw [← hH2, upd_ne hpp]; exact hp1
    refine ⟨_, rfl, p, CS, dx, _, _, rfl, p2, T.clS, T.nOwn, rfl, _, rfl, _, rfl, p, CS, dx, _, _, rfl, p2, T.clS, T.nAhead, rfl, m1, a', pm.1, ff, rfl, t2.d ha1, fun m3 H3 s4 => ?_⟩
    have p3 := s4 _ _ p2
    refine ⟨_, rfl, p, CS, dx, _, rfl, p3, T.clS, T.nOwn, sfl, ?_⟩
    rw [pf_own]
    generalize hH4 : upd H3 p (.ins CS dx _) = H4
    have k4 : Keep p wa H H4 := hH4 ▸ (k2.s s4).p _
    have p4 : H4 p = some (.ins CS dx (sfr (.bl ff) (.str (ln (app pm.1 S.text))) (.int S.made) (.int S.taken) (.int S.heard) (.ref wa) (.int m3) (.int m2))) := hH4 ▸ upd_same
    have t4 : TK H1 H4 := (t2.trans (TK.of s4)).trans (hH4 ▸ TK.upd _ (NoT.ins p3))
    have w4 : H4 p' = some (.lst ys) := by rw [← hH4, upd_ne hpp]; exact s4 _ _ w2
    have l1 : H1 l = some (.tup (lv x.n x.t a m)) := s3 _ _ hl
    refine ⟨_, rfl, _, _, _, _, rfl, rfl, L (t4 _ _ l1), at_of (j := 3) rfl rfl, _, rfl, p, CS, dx, _, rfl, p4, T.clS, T.nFar, sfl, ?_⟩
    rw [pf_far]
    generalize hH5 : upd H4 p (.ins CS dx _) = H5
    have k5 : Keep p wa H H5 := hH5 ▸ k4.p _
    have p5 : H5 p = some (.ins CS dx (sfr (.bl ff) (.str (ln (app pm.1 S.text))) (.int S.made) (.int S.taken) (.int S.heard) (.ref wa) (.int m3) (.int m))) := hH5 ▸ upd_same
    have t5 : TK H1 H5 := t4.trans (hH5 ▸ TK.upd _ (NoT.ins p4))
    have w5 : H5 p' = some (.lst ys) := by rw [← hH5, upd_ne hpp]; exact w4
    refine ⟨_, rfl, p', rfl, ⟨ys, SqL.of w5⟩, for_list (xs := ys)
      (fun i σ H6 => ∃ (o : Option V) (m6 : Nat), σ = [some (.ref p), some (.ref l), some (.ref a'), some (.ref p'), o] ∧ Keep p wa H H6 ∧ TK H1 H6 ∧ H6 p' = some (.lst ys) ∧
        H6 p = some (.ins CS dx (sfr (.bl ff) (.str (ln (app pm.1 S.text))) (.int S.made) (.int S.taken) (.int S.heard) (.ref wa) (.int m3) (.int m6))))
      ⟨none, m, rfl, k5, t5, w5, p5⟩ ?_ ?_ ?_⟩
    · rintro i σ H6 _ ⟨_, _, _, _, _, w6, _⟩
      exact SqL.of w6
    · rintro i v σ H6 hv ⟨_, m6, rfl, k6, t6, w6, p6⟩
      obtain ⟨c, o, rfl, ho, hc⟩ := (hrow1.keep t6).at hv
      refine ⟨_, rfl, p, CS, dx, _, _, rfl, p6, T.clS, T.nFar, rfl, _, rfl, _, rfl, p, CS, dx, _, _, rfl, p6, T.clS, T.nAhead, rfl, _, rfl, m6, c, o, !ff, rfl, hc, fun m7 H7 s7 => ?_⟩
      have p7 := s7 _ _ p6
      refine ⟨_, rfl, p, CS, dx, _, rfl, p7, T.clS, T.nFar, sfl, ?_⟩
      rw [pf_far]
      exact ⟨_, m7, rfl, (k6.s s7).p _, (t6.trans (TK.of s7)).trans (TK.upd _ (NoT.ins p7)), (upd_ne hpp).trans (s7 _ _ w6), upd_same⟩
    · rintro σ H6 ⟨_, m6, rfl, k6, t6, w6, p6⟩
      refine ⟨_, rfl, _, _, _, _, rfl, rfl, L (t6 _ _ l1), at_of (j := 1) rfl rfl, _, rfl, p, CS, dx, _, rfl, p6, T.clS, T.nHeard, sfl, ?_⟩
      rw [pf_heard]
      refine ⟨_, rfl, p, CS, dx, _, _, rfl, upd_same, T.clS, T.nTaken, rfl, _, _, rfl, rfl, dx, _, upd_same, sfl, ?_⟩
      rw [pf_taken]
      refine ⟨_, rfl, _, rfl, p, CS, dx, _, rfl, upd_same, T.clS, T.nWaiting, sfl, ?_⟩
      rw [pf_waiting]
      have k9 := ((k6.p (.ins CS dx (sfr (.bl ff) (.str (ln (app pm.1 S.text))) (.int S.made) (.int S.taken) (.int x.t) (.ref wa) (.int m3) (.int m6)))).p (.ins CS dx (sfr (.bl ff) (.str (ln (app pm.1 S.text))) (.int S.made) (.int (S.taken + 1)) (.int x.t) (.ref wa) (.int m3) (.int m6)))).p (.ins CS dx (sfr (.bl ff) (.str (ln (app pm.1 S.text))) (.int S.made) (.int (S.taken + 1)) (.int x.t) (.ref p') (.int m3) (.int m6)))
      refine ⟨_, rfl, q a' p' _ k9 hp0 ⟨⟨dx, m3, m6, upd_same⟩, ⟨ys, ?_, ?_⟩, hsg2⟩⟩
      · rw [upd_ne hpp, upd_ne hpp, upd_ne hpp]; exact w6
      · exact hrow1.keep (((t6.trans (TK.upd _ (NoT.ins p6))).trans (TK.upd _ (NoT.ins upd_same))).trans (TK.upd _ (NoT.ins upd_same)))
end
end Far
end

section
set_option linter.all false
set_option maxRecDepth 100000
set_option maxHeartbeats 4000000
namespace Far
open PySem PySem.Spec PyProof.Rows L2 FarN FarR
/-! ### a yard in the heap -/
/-- letters at their addresses -/
def LRow (H : Hp) : List V → List LetterM → Prop
  | [], [] => True
  | .ref l :: xs, x :: ls => (∃ a m, H l = some (.tup (lv x.n x.t a m)) ∧ DAt H a x.d ∧ sgOk x.d) ∧ LRow H xs ls
  | _, _ => False
theorem LRow.keep {H H' : Hp} (s : TK H H') : ∀ {xs : List V} {ls : List LetterM}, LRow H xs ls → LRow H' xs ls
  | [], [], _ => trivial
  | .ref a :: xs, x :: ls, ⟨⟨b, m, h1, h2, h3⟩, h⟩ => ⟨⟨b, m, s _ _ h1, s.d h2, h3⟩, LRow.keep s h⟩
theorem LRow.len {H : Hp} : ∀ {xs : List V} {ls : List LetterM}, LRow H xs ls → xs.length = ls.length
  | [], [], _ => rfl
  | .ref a :: xs, d :: ds, h => by rw [List.length_cons, List.length_cons, LRow.len h.2]
theorem LRow.snoc {H : Hp} {l a : Addr} {m : Nat} {x : LetterM} (h1 : H l = some (.tup (lv x.n x.t a m))) (h2 : DAt H a x.d) (h3 : sgOk x.d) : ∀ {xs : List V} {ls : List LetterM}, LRow H xs ls → LRow H (xs ++ [.ref l]) (ls ++ [x])
  | [], [], _ => ⟨⟨a, m, h1, h2, h3⟩, trivial⟩
  | .ref b :: xs, c :: ls, h => ⟨h.1, LRow.snoc h1 h2 h3 h.2⟩
theorem LRow.cons {H : Hp} {xs : List V} {x : LetterM} {ls : List LetterM} (h : LRow H xs (x :: ls)) : ∃ l a m ys, xs = .ref l :: ys ∧ H l = some (.tup (lv x.n x.t a m)) ∧ DAt H a x.d ∧ sgOk x.d ∧ LRow H ys ls := by
  match xs, h with
  | .ref l :: ys, ⟨⟨a, m, h1, h2, h3⟩, h⟩ => exact ⟨l, a, m, ys, rfl, h1, h2, h3, h⟩
def yf (sl rl : Addr) : List (Str × V) := [("seats", .ref sl), ("roads", .ref rl)]
structure YB (CY CS : Addr) (F H : Hp) (y sl rl dx : Addr) (ra sa wa : Bool → Addr) (Y : YardM) : Prop where
  same : Same F H
  y : F y = some (.ins CY dx (yf sl rl))
  sl : F sl = some (.lst [.ref (sa true), .ref (sa false)])
  rl : F rl = some (.lst [.ref (ra true), .ref (ra false)])
  seat : ∀ f, SeatIs CS H (sa f) (wa f) f (Y.s f)
  road : ∀ f, ∃ xs, H (ra f) = some (.lst xs) ∧ LRow H xs (Y.r f)
  fr : ∀ f, F (ra f) = none ∧ F (sa f) = none ∧ F (wa f) = none
  ne : ∀ f, ra f ≠ ra (!f) ∧ sa f ≠ sa (!f) ∧ wa f ≠ wa (!f)
  rw : ∀ f g, ra f ≠ wa g
def YardAt (CY CS : Addr) (F H : Hp) (y sl rl : Addr) (Y : YardM) : Prop := ∃ dx ra sa wa, YB CY CS F H y sl rl dx ra sa wa Y
theorem SeatIs.keep {CS : Addr} {H H' : Hp} {p w : Addr} {f : Bool} {S : SeatM} (h : SeatIs CS H p w f S) (t : TK H H') (h1 : H' p = H p) (h2 : H' w = H w) : SeatIs CS H' p w f S := by
  obtain ⟨⟨dx, m1, m2, a⟩, ⟨xs, b, c⟩, d⟩ := h
  exact ⟨⟨dx, m1, m2, h1.trans a⟩, ⟨xs, h2.trans b, c.keep t⟩, d⟩
theorem SeatIs.same {CS : Addr} {H H' : Hp} {p w : Addr} {f : Bool} {S : SeatM} (h : SeatIs CS H p w f S) (s : Same H H') : SeatIs CS H' p w f S := by
  obtain ⟨⟨dx, m1, m2, a⟩, ⟨xs, b, c⟩, d⟩ := h
  exact ⟨⟨dx, m1, m2, s _ _ a⟩, ⟨xs, s _ _ b, c.keep (TK.of s)⟩, d⟩
theorem SeatIs.some {CS : Addr} {H : Hp} {p w : Addr} {f : Bool} {S : SeatM} (h : SeatIs CS H p w f S) : H p ≠ none ∧ H w ≠ none := by
  obtain ⟨dx, m1, m2, a⟩ := h.ins
  obtain ⟨xs, b, c⟩ := h.lst
  rw [a, b]
  exact ⟨fun z => (by cases z), fun z => (by cases z)⟩
theorem ins_lst {H : Hp} {p l : Addr} {C dx : Addr} {fs : List (Str × V)} {xs : List V} (h1 : H p = some (.ins C dx fs)) (h2 : H l = some (.lst xs)) : p ≠ l := fun z => by
  rw [z, h2] at h1
  injection h1 with h1
  cases h1
theorem YB.mono {CY CS : Addr} {F H H' : Hp} {y sl rl dx : Addr} {ra sa wa : Bool → Addr} {Y : YardM} (h : YB CY CS F H y sl rl dx ra sa wa Y) (s : Same H H') : YB CY CS F H' y sl rl dx ra sa wa Y :=
  ⟨h.same.trans s, h.y, h.sl, h.rl, fun f => (h.seat f).same s, fun f => let ⟨xs, a, b⟩ := h.road f; ⟨xs, s _ _ a, b.keep (TK.of s)⟩, h.fr, h.ne, h.rw⟩
theorem YardAt.mono {CY CS : Addr} {F H H' : Hp} {y sl rl : Addr} {Y : YardM} (h : YardAt CY CS F H y sl rl Y) (s : Same H H') : YardAt CY CS F H' y sl rl Y := by
  obtain ⟨dx, ra, sa, wa, h⟩ := h
  exact ⟨dx, ra, sa, wa, h.mono s⟩
theorem YardAt.frame {CY CS : Addr} {F H : Hp} {y sl rl : Addr} {Y : YardM} (h : YardAt CY CS F H y sl rl Y) : Same F H := by
  obtain ⟨dx, ra, sa, wa, h⟩ := h
  exact h.same
/-- an object that no part of the yard is, taken to the frame -/
theorem YardAt.more {CY CS : Addr} {F H H' : Hp} {y sl rl a : Addr} {o : HO} {Y : YardM} (h : YardAt CY CS F H y sl rl Y) (s : Same H H') (n : H a = none) (e : H' a = some o) : YardAt CY CS (upd F a o) H' y sl rl Y := by
  obtain ⟨dx, ra, sa, wa, h⟩ := h
  have k := h.mono s
  have c1 : ∀ b u, F b = some u → b ≠ a := fun b u q z => by
    rw [z] at q
    rw [h.same _ _ q] at n
    cases n
  have c2 : ∀ b, H b ≠ none → b ≠ a := fun b q z => q (by rw [z]; exact n)
  refine ⟨dx, ra, sa, wa, ⟨fun b u q => ?_, (upd_ne (c1 _ _ h.y)).trans h.y, (upd_ne (c1 _ _ h.sl)).trans h.sl, (upd_ne (c1 _ _ h.rl)).trans h.rl, k.seat, k.road, fun f => ?_, h.ne, h.rw⟩⟩
  · by_cases hb : b = a
    · rw [hb, upd_same] at q
      rw [hb, e]
      exact q
    · rw [upd_ne hb] at q
      exact k.same _ _ q
  · obtain ⟨f1, f2, f3⟩ := h.fr f
    obtain ⟨xs, r1, _⟩ := h.road f
    exact ⟨(upd_ne (c2 _ (by rw [r1]; exact fun z => (by cases z)))).trans f1, (upd_ne (c2 _ (h.seat f).some.1)).trans f2, (upd_ne (c2 _ (h.seat f).some.2)).trans f3⟩
/-- a list of the frame changed -/
theorem YardAt.put {CY CS : Addr} {F H : Hp} {y sl rl a : Addr} {xs ys : List V} {Y : YardM} (h : YardAt CY CS F H y sl rl Y) (e : F a = some (.lst xs)) (n1 : a ≠ sl) (n2 : a ≠ rl) : YardAt CY CS (upd F a (.lst ys)) (upd H a (.lst ys)) y sl rl Y := by
  obtain ⟨dx, ra, sa, wa, h⟩ := h
  have c2 : ∀ b, F b = none → b ≠ a := fun b q z => by rw [z, e] at q; cases q
  have t : TK H (upd H a (.lst ys)) := TK.upd _ (NoT.lst (h.same _ _ e))
  refine ⟨dx, ra, sa, wa, ⟨fun b u q => ?_, (upd_ne (ins_lst h.y e)).trans h.y, (upd_ne n1.symm).trans h.sl, (upd_ne n2.symm).trans h.rl, fun f => ?_, fun f => ?_, fun f => ?_, h.ne, h.rw⟩⟩
  · by_cases hb : b = a
    · rw [hb, upd_same] at q
      rw [hb, upd_same]
      exact q
    · rw [upd_ne hb] at q ⊢
      exact h.same _ _ q
  · obtain ⟨f1, f2, f3⟩ := h.fr f
    exact (h.seat f).keep t (upd_ne (c2 _ f2)) (upd_ne (c2 _ f3))
  · obtain ⟨f1, f2, f3⟩ := h.fr f
    obtain ⟨xs, r1, r2⟩ := h.road f
    exact ⟨xs, (upd_ne (c2 _ f1)).trans r1, r2.keep t⟩
  · obtain ⟨f1, f2, f3⟩ := h.fr f
    exact ⟨(upd_ne (c2 _ f1)).trans f1, (upd_ne (c2 _ f2)).trans f2, (upd_ne (c2 _ f3)).trans f3⟩
theorem at_sn (g : Bool → Addr) (f : Bool) : atI [V.ref (g true), V.ref (g false)] (sn f) = some (.ref (g f)) := by cases f <;> rfl
theorem at_sn1 (g : Bool → Addr) (f : Bool) : atI [V.ref (g true), V.ref (g false)] (1 - sn f) = some (.ref (g (!f))) := by cases f <;> rfl
theorem not_ne (f : Bool) : f ≠ !f := by cases f <;> decide
theorem bool_or (f g : Bool) : g = f ∨ g = !f := by cases f <;> cases g <;> simp
theorem Keep.frame {F H H' : Hp} {p w : Addr} (s : Same F H) (k : Keep p w H H') (h1 : F p = none) (h2 : F w = none) : Same F H' := fun b u e =>
  k b u (fun z => by rw [z, h1] at e; cases e) (fun z => by rw [z, h2] at e; cases e) (s _ _ e)
/-- a seat's own change -/
theorem YB.turn {CY CS : Addr} {F H H' : Hp} {y sl rl dx : Addr} {ra sa wa : Bool → Addr} {Y : YardM} (h : YB CY CS F H y sl rl dx ra sa wa Y) (f : Bool) {w' : Addr} {S : SeatM} (k : Keep (sa f) (wa f) H H') (hw : w' = wa f ∨ H w' = none) (hS : SeatIs CS H' (sa f) w' f S) :
    YB CY CS F H' y sl rl dx ra sa (updB wa f w') ⟨updB Y.s f S, Y.r⟩ := by
  obtain ⟨f1, f2, f3⟩ := h.fr f
  have nT := (h.seat f).noT
  have t := k.tk nT.1 nT.2
  obtain ⟨dx0, m1, m2, hp⟩ := (h.seat f).ins
  obtain ⟨xs0, hw0, _⟩ := (h.seat f).lst
  have hF : F w' = none := by
    rcases hw with e | e
    · rw [e]; exact f3
    · exact none_of h.same e
  refine ⟨Keep.frame h.same k f2 f3, h.y, h.sl, h.rl, fun g => ?_, fun g => ?_, fun g => ?_, fun g => ?_, fun g i => ?_⟩
  · rcases bool_or f g with e | e
    · rw [e]; simp only [updB_same]; exact hS
    · rw [e]; simp only [updB_not]
      obtain ⟨dx1, n1, n2, hp1⟩ := (h.seat (!f)).ins
      obtain ⟨xs1, hw1, _⟩ := (h.seat (!f)).lst
      obtain ⟨_, e2, e3⟩ := h.ne f
      exact (h.seat (!f)).keep t ((k _ _ e2.symm (ins_lst hp1 hw0) hp1).trans hp1.symm) ((k _ _ (ins_lst hp hw1).symm e3.symm hw1).trans hw1.symm)
  · obtain ⟨xs, r1, r2⟩ := h.road g
    exact ⟨xs, k _ _ (ins_lst hp r1).symm (h.rw g f) r1, r2.keep t⟩
  · obtain ⟨g1, g2, g3⟩ := h.fr g
    refine ⟨g1, g2, ?_⟩
    rcases bool_or f g with e | e
    · rw [e]; simp only [updB_same]; exact hF
    · rw [e]; simp only [updB_not]; exact (h.fr (!f)).2.2
  · obtain ⟨g1, g2, g3⟩ := h.ne g
    refine ⟨g1, g2, ?_⟩
    have c : w' ≠ wa (!f) := by
      rcases hw with e | e
      · rw [e]; exact (h.ne f).2.2
      · exact fun z => (h.seat (!f)).some.2 (by rw [← z]; exact e)
    rcases bool_or f g with e | e
    · rw [e]; simp only [updB_same, updB_not]; exact c
    · rw [e, Bool.not_not]; simp only [updB_same, updB_not]; exact c.symm
  · rcases bool_or f i with e | e
    · rw [e]; simp only [updB_same]
      rcases hw with e | e
      · rw [e]; exact h.rw g f
      · obtain ⟨xs, r1, _⟩ := h.road g
        exact fun z => by rw [z, e] at r1; cases r1
    · rw [e]; simp only [updB_not]; exact h.rw g _
/-- a road's change -/
theorem YB.way {CY CS : Addr} {F H : Hp} {y sl rl dx : Addr} {ra sa wa : Bool → Addr} {Y : YardM} (h : YB CY CS F H y sl rl dx ra sa wa Y) (f : Bool) {xs : List V} {ls : List LetterM} (hr : LRow H xs ls) :
    YB CY CS F (upd H (ra f) (.lst xs)) y sl rl dx ra sa wa ⟨Y.s, updB Y.r f ls⟩ := by
  obtain ⟨f1, f2, f3⟩ := h.fr f
  obtain ⟨zs, z1, _⟩ := h.road f
  have t : TK H (upd H (ra f) (.lst xs)) := TK.upd _ (NoT.lst z1)
  refine ⟨fun b u e => ?_, h.y, h.sl, h.rl, fun g => ?_, fun g => ?_, h.fr, h.ne, h.rw⟩
  · rw [upd_ne (fun z => by rw [z, f1] at e; cases e)]
    exact h.same _ _ e
  · obtain ⟨dx0, m1, m2, hp⟩ := (h.seat g).ins
    exact (h.seat g).keep t (upd_ne (ins_lst hp z1)) (upd_ne (h.rw f g).symm)
  · rcases bool_or f g with e | e
    · rw [e]; simp only [updB_same]; exact ⟨xs, upd_same, hr.keep t⟩
    · rw [e]; simp only [updB_not]
      obtain ⟨ys, y1, y2⟩ := h.road (!f)
      exact ⟨ys, (upd_ne (h.ne f).1.symm).trans y1, y2.keep t⟩
end Far
end

section
set_option linter.all false
set_option maxRecDepth 100000
set_option maxHeartbeats 4000000
namespace Far
open PySem PySem.Spec PyProof.Rows L2 FarN FarR
theorem pop0 {α : Type} (x : α) (xs : List α) : seqIndex? 0 (x :: xs).length = some 0 := by
  unfold seqIndex?
  simp
section
variable {P : Program} {w : World} {K : PySem.W.Frag} {mg : Str → Option Value} {base : Heap} {CS CY PA : Addr}

/-! ### Yard.make_at(seat, deed) -/
def YIn (Y : YardM) : Prop := ∀ f, (Y.s f).text.length ≤ 900 ∧ (Y.s f).waiting.length ≤ 900 ∧ (Y.r f).length ≤ 900
def spMakeAt (CY CS : Addr) : Sp := fun vs H Q _ => ∃ (F : Hp) (y sl rl a : Addr) (f : Bool) (Y : YardM) (d : Deed), vs = [.ref y, .int (sn f), .ref a] ∧ YardAt CY CS F H y sl rl Y ∧ DAt H a d ∧ sgOk d ∧ ok d (Y.s f).text ∧ YIn Y ∧
  ∀ (r : Addr) (H' : Hp), TK H H' → YardAt CY CS F H' y sl rl (Y.make f d) → Q (.ref r) H'
theorem scMakeAt : FnScope ["self", "seat", "deed", "letter"] ["self", "seat", "deed"] (defScope sMakeAt) := ⟨rfl, rfl, rfl, by decide +kernel, rfl, by decide +kernel, by decide +kernel⟩
theorem ok_make_at {f : Addr} {fd : FuncData} (F : Fun K "make_at" "Yard.make_at" sMakeAt f fd) (T : Txt K w mg CS CY PA) (GN : FnG P w K mg base 2 "need_seat" ["thing"] spNeed) (GM : MtG P w K mg base CS 5 "make_in" ["self", "deed"] (spMakeIn CS)) :
    FnOk P w K mg base CX0 6 f fd ["self", "seat", "deed"] (spMakeAt CY CS) := by
  refine F.ok scMakeAt (fun vs H Q E h => ?_) (fun cdv A outer s H vs Q E hr h => ?_)
  · obtain ⟨FF, y, sl, rl, a, f, Y, d, rfl, _⟩ := h
    rfl
  · obtain ⟨FF, y, sl, rl, a, ff, Y, d, rfl, hY, hd, hs, ho, hz, q⟩ := h
    have nd := scMakeAt.nd
    refine ⟨_, pss_cons (ps_expr (pcall GN hr (by decide) rfl (pa_cons (pv 1) pa_nil)))
      (pss_cons (ps_set (i := 3) nd rfl (Or.inl rfl) (pmeth GM T.clS hr (by decide) (pe_ix ix_list (pe_fld (pv 0) rfl) (pv 1) (fun _ _ => rfl)) (pa_cons (pv 2) pa_nil)))
      (pss_cons (ps_expr (pe_bm PySem.F.plainAttrs_list PySem.F.slot_list_append PySem.F.type_list_append mt_append (pe_ix ix_list (pe_fld (pv 0) rfl) (pe_op op_sub pe_int (pv 1)) (fun _ _ => rfl)) (pa_cons (pv 3) pa_nil)))
      (pss_one (ps_ret (pv 3))))), ?_⟩
    refine ⟨_, rfl, ff, rfl, fun H1 s1 => ?_⟩
    obtain ⟨dx, ra, sa, wa, B⟩ := hY.mono s1
    obtain ⟨sdx, m1, m2, hp⟩ := (B.seat ff).ins
    have hy := B.same _ _ B.y
    refine ⟨_, rfl, y, CY, dx, _, _, rfl, hy, T.clY, T.nSeats, rfl, _, rfl, _, _, _, _, rfl, rfl, SqL.of (B.same _ _ B.sl), at_sn sa ff, sa ff, sdx, _, rfl, hp, rfl, _, rfl, ?_⟩
    refine ⟨sa ff, wa ff, a, ff, Y.s ff, d, rfl, B.seat ff, hd.same s1, hs, ho, (hz ff).1, (hz ff).2.1, fun r m H2 k2 hS2 hr2 => ?_⟩
    have B2 := B.turn ff k2 (.inl rfl) hS2
    have nT := (B.seat ff).noT
    have t2 := k2.tk nT.1 nT.2
    obtain ⟨xs, x1, x2⟩ := B2.road (!ff)
    refine ⟨_, rfl, y, CY, dx, _, _, rfl, B2.same _ _ B.y, T.clY, T.nRoads, rfl, _, rfl, _, _, rfl, rfl, _, _, _, _, rfl, rfl, SqL.of (B2.same _ _ B.rl), at_sn1 ra ff, .inl ⟨rfl, _, SqL.of x1⟩, _, rfl, ra (!ff), xs, _, rfl, rfl, x1, small (by have := (hz (!ff)).2.2; rw [x2.len]; show (Y.r (!ff)).length ≤ 1000; omega), ?_⟩
    refine ⟨_, rfl, q r _ (((TK.of s1).trans t2).trans (TK.upd _ (NoT.lst x1))) ⟨dx, ra, sa, _, B2.way (!ff) (x2.snoc (x := ⟨(Y.s ff).made, (Y.s ff).taken, d⟩) hr2 (t2.d (hd.same s1)) hs)⟩⟩

/-! ### Yard.come_to(seat) -/
def spComeTo (CY CS : Addr) : Sp := fun vs H Q _ => ∃ (F : Hp) (y sl rl : Addr) (f : Bool) (Y : YardM) (x : LetterM) (rest : List LetterM), vs = [.ref y, .int (sn f)] ∧ YardAt CY CS F H y sl rl Y ∧ SyncY Y ∧ Y.r f = x :: rest ∧ YIn Y ∧
  ∀ (r : Addr) (H' : Hp), TK H H' → YardAt CY CS F H' y sl rl (Y.takeOf f x rest) → Q (.ref r) H'
theorem scComeTo : FnScope ["self", "seat"] ["self", "seat"] (defScope sComeTo) := ⟨rfl, rfl, rfl, by decide +kernel, rfl, by decide +kernel, by decide +kernel⟩
theorem ok_come_to {f : Addr} {fd : FuncData} (F : Fun K "come_to" "Yard.come_to" sComeTo f fd) (T : Txt K w mg CS CY PA) (GN : FnG P w K mg base 2 "need_seat" ["thing"] spNeed) (GT : MtG P w K mg base CS 5 "take_in" ["self", "letter"] (spTakeIn CS)) :
    FnOk P w K mg base CX0 6 f fd ["self", "seat"] (spComeTo CY CS) := by
  refine F.ok scComeTo (fun vs H Q E h => ?_) (fun cdv A outer s H vs Q E hr h => ?_)
  · obtain ⟨FF, y, sl, rl, f, Y, x, rest, rfl, _⟩ := h
    rfl
  · obtain ⟨FF, y, sl, rl, ff, Y, x, rest, rfl, hY, hsy, hx, hz, q⟩ := h
    have nd := scComeTo.nd
    have hu := hu_of hr
    refine ⟨_, pss_cons (ps_expr (pcall GN hr (by decide) rfl (pa_cons (pv 1) pa_nil)))
      (pss_cons (ps_if (pt_cmpR (op_eqLen hu) (pe_ix ix_list (pe_fld (pv 0) rfl) (pv 1) (fun _ _ => rfl)) (pe_lst pa_nil) (nomark _)) (pss_one ps_never) pss_nil)
      (pss_one (ps_ret (pmeth GT T.clS hr (by decide) (pe_ix ix_list (pe_fld (pv 0) rfl) (pv 1) (fun _ _ => rfl)) (pa_cons (pe_bm PySem.F.plainAttrs_list PySem.F.slot_list_pop PySem.F.type_list_pop mt_popAt (pe_ix ix_list (pe_fld (pv 0) rfl) (pv 1) (fun _ _ => rfl)) (pa_cons pe_int pa_nil)) pa_nil))))), ?_⟩
    refine ⟨_, rfl, ff, rfl, fun H1 s1 => ?_⟩
    obtain ⟨h1, h2, h3, h4, _⟩ := hsy.take ff hx
    obtain ⟨dx, ra, sa, wa, B1⟩ := hY.mono s1
    have hy1 := B1.same _ _ B1.y
    obtain ⟨xs, x1, x2⟩ := B1.road ff
    rw [hx] at x2
    obtain ⟨l, a, m, ys, rfl, l1, l2, l3, l4⟩ := x2.cons
    refine ⟨_, rfl, y, CY, dx, _, _, rfl, hy1, T.clY, T.nRoads, rfl, _, rfl, _, _, _, _, rfl, rfl, SqL.of (B1.same _ _ B1.rl), at_sn ra ff, by show 0 ≤ sizeLine; decide, fun p hp => ?_⟩
    have s2 := Same.new (.lst []) hp
    refine ⟨_, _, _, _, rfl, rfl, SqL.of (s2 _ _ x1), SqL.of upd_same, by simp, _, rfl, iteF ?_⟩
    have B := B1.mono s2
    have x1' := s2 _ _ x1
    obtain ⟨sdx, m1, m2, hps⟩ := (B.seat ff).ins
    refine ⟨_, rfl, y, CY, dx, _, _, rfl, B.same _ _ B.y, T.clY, T.nSeats, rfl, _, rfl, _, _, _, _, rfl, rfl, SqL.of (B.same _ _ B.sl), at_sn sa ff, sa ff, sdx, _, rfl, hps, rfl, ?_⟩
    refine ⟨_, rfl, y, CY, dx, _, _, rfl, B.same _ _ B.y, T.clY, T.nRoads, rfl, _, rfl, _, _, _, _, rfl, rfl, SqL.of (B.same _ _ B.rl), at_sn ra ff, .inl ⟨rfl, _, SqL.of x1'⟩, ra ff, _, 0, 0, .ref l, rfl, rfl, x1', by decide, by decide, pop0 _ _, rfl, ?_⟩
    have B3 := B.way ff (l4.keep (TK.of s2))
    have t3 : TK H1 (upd (upd H1 p (.lst [])) (ra ff) (.lst ys)) := (TK.of s2).trans (TK.upd _ (NoT.lst x1'))
    refine ⟨sa ff, wa ff, l, a, ff, Y.s ff, x, m, rfl, B3.seat ff, t3 _ _ l1, t3.d l2, l3, h1, h2, h3, h4, (hz ff).1, (hz ff).2.1, fun r w' H4 k4 hw hS4 => ?_⟩
    have B4 := B3.turn ff k4 (.inr hw) hS4
    have nT := (B3.seat ff).noT
    exact q r H4 ((TK.of s1).trans (t3.trans (k4.tk nT.1 nT.2))) ⟨dx, ra, sa, _, B4⟩

/-! ### Yard.shown_at(seat) -/
def spShownAt (CY CS : Addr) : Sp := fun vs H Q _ => ∃ (F : Hp) (y sl rl : Addr) (f : Bool) (Y : YardM), vs = [.ref y, .int (sn f)] ∧ YardAt CY CS F H y sl rl Y ∧ ∀ H', Same H H' → Q (.str (ln (Y.s f).text)) H'
theorem scShownAt : FnScope ["self", "seat"] ["self", "seat"] (defScope sShownAt) := ⟨rfl, rfl, rfl, by decide +kernel, rfl, by decide +kernel, by decide +kernel⟩
theorem ok_shown_at {f : Addr} {fd : FuncData} (F : Fun K "shown_at" "Yard.shown_at" sShownAt f fd) (T : Txt K w mg CS CY PA) (GN : FnG P w K mg base 2 "need_seat" ["thing"] spNeed) (GS : MtG P w K mg base CS 1 "shown" ["self"] (spShown CS)) :
    FnOk P w K mg base CX0 3 f fd ["self", "seat"] (spShownAt CY CS) := by
  refine F.ok scShownAt (fun vs H Q E h => ?_) (fun cdv A outer s H vs Q E hr h => ?_)
  · obtain ⟨FF, y, sl, rl, f, Y, rfl, _⟩ := h
    rfl
  · obtain ⟨FF, y, sl, rl, ff, Y, rfl, hY, q⟩ := h
    refine ⟨_, pss_cons (ps_expr (pcall GN hr (by decide) rfl (pa_cons (pv 1) pa_nil)))
      (pss_one (ps_ret (pmeth0 GS T.clS hr (by decide) (pe_ix ix_list (pe_fld (pv 0) rfl) (pv 1) (fun _ _ => rfl))))), ?_⟩
    refine ⟨_, rfl, ff, rfl, fun H1 s1 => ?_⟩
    obtain ⟨dx, ra, sa, wa, B⟩ := hY.mono s1
    obtain ⟨sdx, m1, m2, hp⟩ := (B.seat ff).ins
    refine ⟨_, rfl, y, CY, dx, _, _, rfl, B.same _ _ B.y, T.clY, T.nSeats, rfl, _, rfl, _, _, _, _, rfl, rfl, SqL.of (B.same _ _ B.sl), at_sn sa ff, sa ff, sdx, _, rfl, hp, rfl, ?_⟩
    exact ⟨sa ff, wa ff, ff, Y.s ff, rfl, B.seat ff, q H1 s1⟩
end
end Far
end

section
set_option linter.all false
set_option maxRecDepth 100000
set_option maxHeartbeats 4000000
namespace Far
open PySem PySem.Spec PyProof.Rows L2 FarN FarR
/-- the choice of a seat, at c -/
def kw (ch : Ch) : Str := if ch.isPut then "put" else "cut"
def Ch.num : Ch → Nat
  | .put n _ => n
  | .cut n => n
/-- z: the sign that stands in it -/
def CAt (H : Hp) (c : Addr) (f : Bool) (ch : Ch) : Prop := ∃ z : Nat, isSg z ∧ (∀ n e, ch = .put n e → e = z) ∧ H c = some (.tup [.int (sn f), .str (kw ch), .int ch.num, .str (one z)])
theorem CAt.keep {H H' : Hp} {c : Addr} {f : Bool} {ch : Ch} (t : TK H H') (h : CAt H c f ch) : CAt H' c f ch := by
  obtain ⟨z, h1, h2, h3⟩ := h
  exact ⟨z, h1, h2, t _ _ h3⟩
theorem fmod_nat (a b : Nat) : ((a : Int).fmod (b : Int)) = ((a % b : Nat) : Int) := by
  rw [Int.fmod_eq_emod_of_nonneg _ (Int.natCast_nonneg b)]
  exact (Int.natCast_emod a b).symm
theorem Ch.deed_sg {H : Hp} {c : Addr} {f : Bool} {ch : Ch} (h : CAt H c f ch) (l : List Nat) : sgOk (ch.deed l) := by
  obtain ⟨z, h1, h2, _⟩ := h
  cases ch with
  | put n e => rw [h2 n e rfl]; exact h1
  | cut n =>
    simp only [Ch.deed]
    split <;> trivial
theorem kw_put (n e : Nat) : kw (.put n e) = "put" := rfl
theorem kw_cut (n : Nat) : kw (.cut n) = "cut" := rfl
section
variable {P : Program} {w : World} {K : PySem.W.Frag} {mg : Str → Option Value} {base : Heap} {CS CY PA : Addr}

/-! ### chosen(yard, choice) -/
def spChosen (CY CS : Addr) : Sp := fun vs H Q _ => ∃ (F : Hp) (y sl rl c : Addr) (f : Bool) (Y : YardM) (ch : Ch), vs = [.ref y, .ref c] ∧ YardAt CY CS F H y sl rl Y ∧ CAt H c f ch ∧ YIn Y ∧
  ∀ (a : Addr) (H' : Hp), Same H H' → DAt H' a (ch.deed (Y.s f).text) → Q (.ref a) H'
theorem scChosen : FnScope ["yard", "choice", "seat", "kind", "number", "sign", "many"] ["yard", "choice"] (defScope sChosen) := ⟨rfl, rfl, rfl, by decide +kernel, rfl, by decide +kernel, by decide +kernel⟩
theorem ok_chosen {f : Addr} {fd : FuncData} (F : Fun K "chosen" "chosen" sChosen f fd) (T : Txt K w mg CS CY PA) (GS : MtG P w K mg base CY 3 "shown_at" ["self", "seat"] (spShownAt CY CS)) :
    FnOk P w K mg base CX0 4 f fd ["yard", "choice"] (spChosen CY CS) := by
  refine F.ok scChosen (fun vs H Q E h => ?_) (fun cdv A outer s H vs Q E hr h => ?_)
  · obtain ⟨FF, y, sl, rl, c, f, Y, ch, rfl, _⟩ := h
    rfl
  · obtain ⟨FF, y, sl, rl, c, ff, Y, ch, rfl, hY, hc, hz, q⟩ := h
    have nd := scChosen.nd
    refine ⟨_, pss_cons (ps_asg (pv 1) (pg_tup (by rfl) (pgs_cons (pg_name (i := 2) nd rfl (Or.inl rfl)) (pgs_cons (pg_name (i := 3) nd rfl (Or.inl rfl)) (pgs_cons (pg_name (i := 4) nd rfl (Or.inl rfl)) (pgs_cons (pg_name (i := 5) nd rfl (Or.inl rfl)) pgs_nil))))))
      (pss_cons (ps_set (i := 6) nd rfl (Or.inl rfl) (pe_callB call_len_str (by rfl) T.len PySem.boot_len (pa_cons (pmeth GS T.clY hr (by decide) (pv 0) (pa_cons (pv 2) pa_nil)) pa_nil)))
      (pss_cons (ps_if (pt_cmpR op_eq (pv 3) pe_str (nomark _)) (pss_one (ps_ret (pe_tup (pa_cons pe_str (pa_cons (pe_op op_modN (pv 4) (pe_op op_add (pv 6) pe_int)) (pa_cons (pv 5) pa_nil)))))) pss_nil)
      (pss_cons (ps_if (PW.pt (pw_and (pt_cmpR op_eq (pv 3) pe_str (nomark _)) (pw_and1 (pt_cmpR op_gt (pv 6) pe_int (nomark _))))) (pss_one (ps_ret (pe_tup (pa_cons pe_str (pa_cons (pe_op op_modN (pv 4) (pv 6)) pa_nil))))) pss_nil)
      (pss_one (ps_ret (pe_tup (pa_cons pe_str pa_nil))))))), ?_⟩
    have hsg := Ch.deed_sg hc (Y.s ff).text
    obtain ⟨z, z1, z2, z3⟩ := hc
    have hlen : (ln (Y.s ff).text).length ≤ sizeLine := by rw [ln_length]; exact small' (by have := (hz ff).1; omega)
    obtain ⟨dx, ra, sa, wa, B⟩ := hY
    refine ⟨_, rfl, _, _, rfl, SqT.of z3, rfl, _, _, rfl, _, _, rfl, _, _, rfl, _, _, rfl, rfl, ?_⟩
    refine ⟨_, rfl, y, dx, _, rfl, B.same _ _ B.y, rfl, _, rfl, FF, y, sl, rl, ff, Y, rfl, ⟨dx, ra, sa, wa, B⟩, fun H1 s1 => ?_⟩
    refine ⟨_, rfl, hlen, ?_⟩
    cases ch with
    | put n e =>
      refine ⟨_, rfl, rfl, true, by rw [kw_put]; decide +kernel, iteT ?_⟩
      refine ⟨_, rfl, _, rfl, _, _, rfl, rfl, _, _, rfl, rfl, by omega, _, rfl, (by show 3 ≤ sizeLine; decide), fun t ht => ?_⟩
      refine q t _ (s1.trans (Same.new _ ht)) ?_
      show upd H1 t _ t = _
      rw [upd_same]
      show some (HO.tup [V.str "put", V.int ((n : Int).fmod ((((ln (Y.s ff).text).length : Nat) : Int) + 1)), V.str (one z)]) = some (HO.tup [V.str "put", V.int ((n % ((Y.s ff).text.length + 1) : Nat) : Int), V.str (one e)])
      rw [ln_length, show (((Y.s ff).text.length : Int) + 1) = (((Y.s ff).text.length + 1 : Nat) : Int) by omega, fmod_nat, z2 n e rfl]
    | cut n =>
      refine ⟨_, rfl, rfl, false, by rw [kw_cut]; decide +kernel, iteF ?_⟩
      refine ⟨_, rfl, rfl, true, by rw [kw_cut]; decide +kernel, iteT ?_⟩
      refine ⟨_, rfl, _, _, rfl, rfl, _, rfl, ?_⟩
      by_cases hl : 0 < (Y.s ff).text.length
      · refine iteD (by rw [ln_length]; omega) ?_
        refine ⟨_, rfl, _, rfl, _, _, rfl, rfl, by rw [ln_length]; omega, (by show 2 ≤ sizeLine; decide), fun t ht => ?_⟩
        refine q t _ (s1.trans (Same.new _ ht)) ?_
        show upd H1 t _ t = _
        rw [upd_same]
        show some (HO.tup [V.str "cut", V.int ((n : Int).fmod (((ln (Y.s ff).text).length : Nat) : Int))]) = some (HO.tup (dv (if 0 < (Y.s ff).text.length then .cut (n % (Y.s ff).text.length) else .non)))
        rw [ln_length, fmod_nat, if_pos hl]
        rfl
      · refine iteDn (by rw [ln_length]; omega) ?_
        refine ⟨by show 1 ≤ sizeLine; decide, fun t ht => ?_⟩
        refine q t _ (s1.trans (Same.new _ ht)) ?_
        show upd H1 t _ t = _
        rw [upd_same]
        show some (HO.tup [V.str "none"]) = some (HO.tup (dv (if 0 < (Y.s ff).text.length then .cut (n % (Y.s ff).text.length) else .non)))
        rw [if_neg hl]
        rfl

/-! ### Yard.choose(choice), a choice to type -/
def spChoose (CY CS : Addr) : Sp := fun vs H Q _ => ∃ (F : Hp) (y sl rl c : Addr) (f : Bool) (Y : YardM) (ch : Ch), vs = [.ref y, .ref c] ∧ YardAt CY CS F H y sl rl Y ∧ CAt H c f ch ∧ YIn Y ∧
  ∀ (r : Addr) (H' : Hp), TK H H' → YardAt CY CS F H' y sl rl (Y.make f (ch.deed (Y.s f).text)) → Q (.ref r) H'
theorem scChoose : FnScope ["self", "choice", "seat", "deed"] ["self", "choice"] (defScope sChoose) := ⟨rfl, rfl, rfl, by decide +kernel, rfl, by decide +kernel, by decide +kernel⟩
theorem ok_choose {f : Addr} {fd : FuncData} (F : Fun K "choose" "Yard.choose" sChoose f fd) (T : Txt K w mg CS CY PA) (GC : FnG P w K mg base 4 "chosen" ["yard", "choice"] (spChosen CY CS)) (GM : MtG P w K mg base CY 6 "make_at" ["self", "seat", "deed"] (spMakeAt CY CS)) :
    FnOk P w K mg base CX0 7 f fd ["self", "choice"] (spChoose CY CS) := by
  refine F.ok scChoose (fun vs H Q E h => ?_) (fun cdv A outer s H vs Q E hr h => ?_)
  · obtain ⟨FF, y, sl, rl, c, f, Y, ch, rfl, _⟩ := h
    rfl
  · obtain ⟨FF, y, sl, rl, c, ff, Y, ch, rfl, hY, hc, hz, q⟩ := h
    have nd := scChoose.nd
    refine ⟨_, pss_cons (ps_set (i := 2) nd rfl (Or.inl rfl) (pe_ix ix_tup (pv 1) pe_int (fun _ _ => rfl)))
      (pss_cons (ps_if (pt_cmpR op_eq (pe_ix ix_tup (pv 1) pe_int (fun _ _ => rfl)) pe_str (nomark _)) (pss_one ps_never) pss_nil)
      (pss_cons (ps_set (i := 3) nd rfl (Or.inl rfl) (pcall GC hr (by decide) rfl (pa_cons (pv 0) (pa_cons (pv 1) pa_nil))))
      (pss_cons (ps_expr (pmeth GM T.clY hr (by decide) (pv 0) (pa_cons (pv 2) (pa_cons (pv 3) pa_nil))))
      (pss_one (ps_ret (pv 3)))))), ?_⟩
    have hsg := Ch.deed_sg hc (Y.s ff).text
    have hc' := hc
    obtain ⟨z, z1, z2, z3⟩ := hc
    refine ⟨_, rfl, _, _, _, _, rfl, rfl, SqT.of z3, at_of (j := 0) rfl rfl, _, rfl, _, _, _, _, rfl, rfl, SqT.of z3, at_of (j := 1) rfl rfl, rfl, false, by cases ch; rw [kw_put]; decide +kernel; rw [kw_cut]; decide +kernel, iteF ?_⟩
    refine ⟨_, rfl, _, rfl, FF, y, sl, rl, c, ff, Y, ch, rfl, hY, hc', hz, fun a H1 s1 ha => ?_⟩
    have hY1 := hY.mono s1
    obtain ⟨dx, ra, sa, wa, B⟩ := hY1
    refine ⟨_, rfl, y, dx, _, rfl, B.same _ _ B.y, rfl, _, rfl, _, rfl, FF, y, sl, rl, a, ff, Y, _, rfl, ⟨dx, ra, sa, wa, B⟩, ha, hsg, ch.deed_ok _, hz, fun r H2 t2 hY2 => ?_⟩
    exact ⟨_, rfl, q a H2 ((TK.of s1).trans t2) hY2⟩

/-! ### Yard.__init__(line) -/
def spYardInit (CY CS : Addr) : Sp := fun vs H Q _ => ∃ (y dx : Addr) (l : List Nat), vs = [.ref y, .str (ln l)] ∧ H y = some (.ins CY dx []) ∧ l.length ≤ 900 ∧
  ∀ (F H' : Hp) (sl rl : Addr), (∀ b u, b ≠ y → H b = some u → F b = some u) → H sl = none → H rl = none → YardAt CY CS F H' y sl rl (yard0 l) → Q .non H'
theorem scYardInit : FnScope ["self", "line", "number"] ["self", "line"] (defScope sYardInit) := ⟨rfl, rfl, rfl, by decide +kernel, rfl, by decide +kernel, by decide +kernel⟩
theorem ok_yard_init {f : Addr} {fd : FuncData} (F : Fun K "__init__" "Yard.__init__" sYardInit f fd) (T : Txt K w mg CS CY PA) (GM : MkG P w K mg base CS 1 ["self", "number", "line"] (spSeatInit CS)) :
    FnOk P w K mg base CX0 3 f fd ["self", "line"] (spYardInit CY CS) := by
  refine F.ok scYardInit (fun vs H Q E h => ?_) (fun cdv A outer s H vs Q E hr h => ?_)
  · obtain ⟨y, dx, l, rfl, _⟩ := h
    rfl
  · obtain ⟨y, dx, l, rfl, hy, hz, q⟩ := h
    have nd := scYardInit.nd
    refine ⟨_, pss_cons (ps_fld (pv 0) (pe_lc (own := [("number", 2)]) (g := gName 2) (tt := tYes) (by rfl) nd (pi_range1 rfl T.range (pa_cons pe_int pa_nil)) (blkOk_by (N := ["self", "line", "number"]) (sc := defScope sYardInit) (by decide +kernel)) (fun _ _ _ _ _ => pg_name (i := 2) nd rfl (Or.inl rfl)) (fun _ _ _ _ _ => pts_nil)
        (fun _ _ _ _ _ => pmake GM hr (by decide) rfl T.mgS (pa_cons (pv 2) (pa_cons (pv 1) pa_nil)))) rfl)
      (pss_one (ps_fld (pv 0) (pe_lst (pa_cons (pe_lst pa_nil) (pa_cons (pe_lst pa_nil) pa_nil))) rfl)), ?_⟩
    refine ⟨2, rfl, by decide, by decide, fun D hD => ?_⟩
    refine lc_range (lo := 0) (n := 2) (fun i Hc => ∃ sa wa : Bool → Addr, Hc D = some (.lst ([V.ref (sa true), V.ref (sa false)].take i)) ∧ Same H Hc ∧
      (1 ≤ i → SeatIs CS Hc (sa true) (wa true) true ⟨l, 0, 0, 0, []⟩ ∧ H (sa true) = none ∧ H (wa true) = none ∧ wa true ≠ D) ∧
      (2 ≤ i → SeatIs CS Hc (sa false) (wa false) false ⟨l, 0, 0, 0, []⟩ ∧ H (sa false) = none ∧ H (wa false) = none ∧ sa true ≠ sa false ∧ wa true ≠ wa false ∧ wa false ≠ D))
      ⟨fun _ => D, fun _ => D, upd_same, Same.new _ hD, fun z => absurd z (by decide), fun z => absurd z (by decide)⟩ ?_ ?_
    · rintro i Hc hi ⟨sa, wa, hDc, sc, c1, c2⟩
      have e2 : i = 0 ∨ i = 1 := by omega
      rcases e2 with rfl | rfl
      · refine ⟨rfl, ?_⟩
        refine ⟨_, rfl, _, rfl, fun x dx2 hx hdx hne => ?_⟩
        refine ⟨x, dx2, true, l, rfl, upd_same, hz, fun w0 H2 k2 hw hS => ⟨rfl, [], ?_, (by show 0 < sizeLine; decide), ?_⟩⟩
        · exact k2 D _ (ne_of_none hDc hx) (ne_of_none hDc hx) (by rw [upd_ne (ne_of_none hDc hx), upd_ne (ne_of_none hDc hdx)]; exact hDc)
        · have hDx : D ≠ x := ne_of_none hDc hx
          have hw0 : Hc w0 = none := by
            have hwx : w0 ≠ x := fun z => by rw [z, upd_same] at hw; cases hw
            rw [upd_ne hwx] at hw
            by_cases e : w0 = dx2
            · rw [e]; exact hdx
            · rw [upd_ne e] at hw; exact hw
          have hDw : w0 ≠ D := (ne_of_none hDc hw0).symm
          have hd2 : H2 D = some (.lst []) := k2 D _ hDx hDx (by rw [upd_ne hDx, upd_ne (ne_of_none hDc hdx)]; exact hDc)
          refine ⟨fun _ => x, fun _ => w0, upd_same, fun b u e => ?_, fun _ => ⟨?_, none_of sc hx, none_of sc hw0, hDw⟩, fun z => absurd z (by decide)⟩
          · have eb := sc _ _ e
            rw [upd_ne (ne_of_none e hD)]
            exact k2 b u (ne_of_none eb hx) (ne_of_none eb hx) (by rw [upd_ne (ne_of_none eb hx), upd_ne (ne_of_none eb hdx)]; exact eb)
          · exact hS.keep (TK.upd _ (NoT.lst hd2)) (upd_ne hDx.symm) (upd_ne hDw)
      · obtain ⟨hS0, n1, n2, n3⟩ := c1 (by decide)
        refine ⟨rfl, ?_⟩
        refine ⟨_, rfl, _, rfl, fun x dx2 hx hdx hne => ?_⟩
        have sx : Same Hc (upd (upd Hc dx2 (.own x)) x (.ins CS dx2 [])) := fun b u e => by rw [upd_ne (ne_of_none e hx), upd_ne (ne_of_none e hdx)]; exact e
        refine ⟨x, dx2, false, l, rfl, upd_same, hz, fun w0 H2 k2 hw hS => ⟨rfl, [V.ref (sa true)], ?_, (by show 1 < sizeLine; decide), ?_⟩⟩
        · exact k2 D _ (ne_of_none hDc hx) (ne_of_none hDc hx) (sx _ _ hDc)
        · have hDx : D ≠ x := ne_of_none hDc hx
          have hw0 : Hc w0 = none := none_of sx hw
          have hDw : w0 ≠ D := (ne_of_none hDc hw0).symm
          have sH : Same Hc H2 := fun b u e => k2 b u (ne_of_none e hx) (ne_of_none e hx) (sx _ _ e)
          have hd2 : H2 D = some (.lst [.ref (sa true)]) := sH _ _ hDc
          have c0 : ∀ b, Hc b ≠ none → b ≠ x ∧ b ≠ w0 := fun b e => ⟨fun z => e (by rw [z]; exact hx), fun z => e (by rw [z]; exact hw0)⟩
          have t : TK H2 (upd H2 D (.lst ([.ref (sa true)] ++ [.ref x]))) := TK.upd _ (NoT.lst hd2)
          have hsD : sa true ≠ D := by
            obtain ⟨dx0, m1, m2, hp⟩ := hS0.ins
            exact ins_lst hp hDc
          refine ⟨updB sa false x, updB wa false w0, upd_same, fun b u e => ?_, fun _ => ⟨?_, n1, n2, n3⟩, fun _ => ⟨?_, none_of sc hx, none_of sc hw0, ?_, ?_, hDw⟩⟩
          · rw [upd_ne (ne_of_none e hD)]
            exact sH _ _ (sc _ _ e)
          · exact (hS0.same sH).keep t (upd_ne hsD) (upd_ne n3)
          · exact hS.keep t (upd_ne hDx.symm) (upd_ne hDw)
          · exact (c0 _ hS0.some.1).1
          · exact (c0 _ hS0.some.2).2
    · rintro Hc ⟨sa, wa, hDc, sc, c1, c2⟩
      obtain ⟨hS0, n1, n2, n3⟩ := c1 (by decide)
      obtain ⟨hS1, n4, n5, n6, n7, n8⟩ := c2 (by decide)
      have hyc := sc _ _ hy
      have hyD : y ≠ D := ne_of_none hy hD
      refine ⟨_, rfl, y, CY, dx, _, rfl, hyc, T.clY, T.nSeats, by show 0 < 1000; omega, ?_⟩
      generalize hH1 : upd Hc y (.ins CY dx (putF "seats" (.ref D) [])) = H1
      have y1 : H1 y = some (.ins CY dx [("seats", .ref D)]) := hH1 ▸ upd_same
      have e1 : ∀ b u, b ≠ y → Hc b = some u → H1 b = some u := fun b u h e => by rw [← hH1, upd_ne h]; exact e
      refine ⟨by show 0 ≤ sizeLine; decide, fun r0 hr0 => ⟨by show 0 ≤ sizeLine; decide, fun r1 hr1 => ⟨by show 2 ≤ sizeLine; decide, fun R hR => ?_⟩⟩⟩
      have s1 := Same.new (.lst []) hr0
      have s2 := Same.new (.lst []) hr1
      have s3 := Same.new (.lst [.ref r0, .ref r1]) hR
      have s12 := s1.trans s2
      have s123 := s12.trans s3
      refine ⟨_, rfl, y, CY, dx, _, rfl, s123 _ _ y1, T.clY, T.nRoads, by show 1 < 1000; omega, ?_⟩
      have hD2 : Hc D = some (.lst [.ref (sa true), .ref (sa false)]) := hDc
      have D1 : H1 D = some (.lst [.ref (sa true), .ref (sa false)]) := e1 _ _ hyD.symm hD2
      have ry0 : r0 ≠ y := (ne_of_none y1 hr0).symm
      have ry1 : r1 ≠ y := (ne_of_none (s1 _ _ y1) hr1).symm
      have Ry : R ≠ y := (ne_of_none (s12 _ _ y1) hR).symm
      have r01 : r0 ≠ r1 := ne_of_none upd_same hr1
      have r0R : r0 ≠ R := ne_of_none (s2 _ _ upd_same) hR
      have r1R : r1 ≠ R := ne_of_none upd_same hR
      have r0D : r0 ≠ D := (ne_of_none D1 hr0).symm
      have r1D : r1 ≠ D := (ne_of_none (s1 _ _ D1) hr1).symm
      have RD : R ≠ D := (ne_of_none (s12 _ _ D1) hR).symm
      have h1n : ∀ b, b ≠ y → H1 b = none → H b = none := fun b hb e => none_of sc (by rw [← hH1, upd_ne hb] at e; exact e)
      have r0n : H r0 = none := h1n _ ry0 hr0
      have r1n : H r1 = none := h1n _ ry1 (none_of s1 hr1)
      have Rn : H R = none := h1n _ Ry (none_of s12 hR)
      have yn : ∀ b, H b = none → b ≠ y := fun b e z => by rw [z, hy] at e; cases e
      -- from Hc to the end
      have big : ∀ b u, b ≠ y → Hc b = some u → upd (upd (upd (upd H1 r0 (.lst [])) r1 (.lst [])) R (.lst [.ref r0, .ref r1])) y (.ins CY dx (putF "roads" (.ref R) [("seats", .ref D)])) b = some u := fun b u h e => by
        rw [upd_ne h]
        exact s123 _ _ (e1 b u h e)
      have tb : TK Hc (upd (upd (upd (upd H1 r0 (.lst [])) r1 (.lst [])) R (.lst [.ref r0, .ref r1])) y (.ins CY dx (putF "roads" (.ref R) [("seats", .ref D)]))) := fun b xs e => big b _ (fun z => by rw [z, hyc] at e; injection e with e; cases e) e
      have seat_ok : ∀ (p w' : Addr) (f : Bool), H p = none → H w' = none → SeatIs CS Hc p w' f ⟨l, 0, 0, 0, []⟩ → SeatIs CS (upd (upd (upd (upd H1 r0 (.lst [])) r1 (.lst [])) R (.lst [.ref r0, .ref r1])) y (.ins CY dx (putF "roads" (.ref R) [("seats", .ref D)]))) p w' f ⟨l, 0, 0, 0, []⟩ := fun p w' f np nw hS => by
        obtain ⟨⟨dx0, m1, m2, a⟩, ⟨xs, b, c⟩, d⟩ := hS
        exact ⟨⟨dx0, m1, m2, big _ _ (yn _ np) a⟩, ⟨xs, big _ _ (yn _ nw) b, c.keep tb⟩, d⟩
      have nn : ∀ b, Hc b ≠ none → b ≠ y → b ≠ r0 ∧ b ≠ r1 ∧ b ≠ R := fun b e h => by
        cases q : Hc b with
        | none => exact absurd q e
        | some u =>
          have e2 := e1 b u h q
          exact ⟨ne_of_none e2 hr0, ne_of_none (s1 _ _ e2) hr1, ne_of_none (s12 _ _ e2) hR⟩
      refine q (upd (upd (upd H D (.lst [.ref (sa true), .ref (sa false)])) R (.lst [.ref r0, .ref r1])) y (.ins CY dx (yf D R))) _ D R (fun b u h e => ?_) hD Rn ⟨dx, updB (fun _ => r1) true r0, sa, wa, ?_⟩
      · rw [upd_ne h, upd_ne (ne_of_none e Rn), upd_ne (ne_of_none e hD)]
        exact e
      · obtain ⟨a1, a2, a3⟩ := nn _ hS0.some.2 (yn _ n2)
        obtain ⟨b1, b2, b3⟩ := nn _ hS1.some.2 (yn _ n5)
        obtain ⟨a4, a5, a6⟩ := nn _ hS0.some.1 (yn _ n1)
        obtain ⟨b4, b5, b6⟩ := nn _ hS1.some.1 (yn _ n4)
        obtain ⟨dx1, _, _, p0⟩ := hS0.ins
        obtain ⟨dx2, _, _, p1⟩ := hS1.ins
        refine ⟨fun b u e => ?_, upd_same, (upd_ne hyD.symm).trans ((upd_ne RD.symm).trans upd_same), (upd_ne Ry).trans upd_same, fun f => ?_, fun f => ?_, fun f => ?_, fun f => ?_, fun f g => ?_⟩
        · by_cases hb : b = y
          · rw [hb, upd_same] at e ⊢
            exact e
          · rw [upd_ne hb] at e ⊢
            by_cases hb2 : b = R
            · rw [hb2, upd_same] at e ⊢
              exact e
            · rw [upd_ne hb2] at e ⊢
              by_cases hb3 : b = D
              · rw [hb3, upd_same] at e
                rw [hb3, upd_ne r1D.symm, upd_ne r0D.symm, ← e]
                exact D1
              · rw [upd_ne hb3] at e
                exact s12 _ _ (e1 _ _ hb (sc _ _ e))
        · cases f with
          | true => exact seat_ok _ _ _ n1 n2 hS0
          | false => exact seat_ok _ _ _ n4 n5 hS1
        · cases f with
          | true => exact ⟨[], (upd_ne ry0).trans ((upd_ne r0R).trans ((upd_ne r01).trans upd_same)), trivial⟩
          | false => exact ⟨[], (upd_ne ry1).trans ((upd_ne r1R).trans upd_same), trivial⟩
        · cases f with
          | true => exact ⟨(upd_ne ry0).trans ((upd_ne r0R).trans ((upd_ne r0D).trans r0n)), (upd_ne (yn _ n1)).trans ((upd_ne a6).trans ((upd_ne (ins_lst p0 hD2)).trans n1)), (upd_ne (yn _ n2)).trans ((upd_ne a3).trans ((upd_ne n3).trans n2))⟩
          | false => exact ⟨(upd_ne ry1).trans ((upd_ne r1R).trans ((upd_ne r1D).trans r1n)), (upd_ne (yn _ n4)).trans ((upd_ne b6).trans ((upd_ne (ins_lst p1 hD2)).trans n4)), (upd_ne (yn _ n5)).trans ((upd_ne b3).trans ((upd_ne n8).trans n5))⟩
        · cases f with
          | true => exact ⟨r01, n6, n7⟩
          | false => exact ⟨r01.symm, n6.symm, n7.symm⟩
        · cases f <;> cases g
          · exact b2.symm
          · exact a2.symm
          · exact b1.symm
          · exact a1.symm
end
end Far
end

section
set_option linter.all false
set_option maxRecDepth 100000
set_option maxHeartbeats 4000000
namespace Far
open PySem PySem.Spec PyProof.Rows L2 FarN FarR
/-! ### rows of any kind -/
def Row {α : Type} (R : Hp → Addr → α → Prop) (H : Hp) : List V → List α → Prop
  | [], [] => True
  | .ref a :: xs, d :: ds => R H a d ∧ Row R H xs ds
  | _, _ => False
section
variable {α : Type} {R : Hp → Addr → α → Prop} {H H' : Hp}
theorem Row.mono (k : ∀ a d, R H a d → R H' a d) : ∀ {xs : List V} {ds : List α}, Row R H xs ds → Row R H' xs ds
  | [], [], _ => trivial
  | .ref a :: xs, d :: ds, h => ⟨k _ _ h.1, Row.mono k h.2⟩
theorem Row.len : ∀ {xs : List V} {ds : List α}, Row R H xs ds → xs.length = ds.length
  | [], [], _ => rfl
  | .ref a :: xs, d :: ds, h => by rw [List.length_cons, List.length_cons, Row.len h.2]
theorem Row.snoc {a : Addr} {d : α} (e : R H a d) : ∀ {xs : List V} {ds : List α}, Row R H xs ds → Row R H (xs ++ [.ref a]) (ds ++ [d])
  | [], [], _ => ⟨e, trivial⟩
  | .ref b :: xs, c :: ds, h => ⟨h.1, Row.snoc e h.2⟩
theorem Row.at : ∀ {xs : List V} {ds : List α} {i : Nat} {x : V}, Row R H xs ds → xs[i]? = some x → ∃ a d, x = .ref a ∧ ds[i]? = some d ∧ R H a d
  | .ref a :: xs, d :: ds, 0, x, h, e => ⟨a, d, (Option.some.inj e).symm, rfl, h.1⟩
  | .ref a :: xs, d :: ds, i + 1, x, h, e => Row.at (i := i) h.2 (by simpa using e)
  | [], [], i, x, _, e => by simp at e
theorem Row.cons {xs : List V} {d : α} {ds : List α} (h : Row R H xs (d :: ds)) : ∃ a ys, xs = .ref a :: ys ∧ R H a d ∧ Row R H ys ds := by
  match xs, h with
  | .ref a :: ys, h => exact ⟨a, ys, rfl, h.1, h.2⟩
end
/-- tuples and lists stay -/
def TL (H H' : Hp) : Prop := TK H H' ∧ ∀ (a : Addr) (xs : List V), H a = some (.lst xs) → H' a = some (.lst xs)
theorem TL.refl (H : Hp) : TL H H := ⟨TK.refl H, fun _ _ e => e⟩
theorem TL.of {H H' : Hp} (s : Same H H') : TL H H' := ⟨TK.of s, fun _ _ e => s _ _ e⟩
theorem TL.trans {H H1 H2 : Hp} (s : TL H H1) (t : TL H1 H2) : TL H H2 := ⟨s.1.trans t.1, fun _ _ e => t.2 _ _ (s.2 _ _ e)⟩
def NoL (o : Option HO) : Prop := NoT o ∧ ∀ xs, o ≠ some (.lst xs)
theorem TL.upd {H : Hp} {p : Addr} (o : HO) (h : NoL (H p)) : TL H (upd H p o) := ⟨TK.upd o h.1, fun a xs e => by
  rw [upd_ne (fun z => h.2 xs (by rw [← z]; exact e))]
  exact e⟩
theorem NoL.nd {P : Program} {w : World} {d : Addr} {xs : List Ent} {o : Option HO} (h : o = some (ND P w d xs)) : NoL o := ⟨fun ys z => (by rw [h] at z; injection z with z; cases z), fun ys z => (by rw [h] at z; injection z with z; cases z)⟩
theorem NoL.frz {o' : Obj} {u : HO} {o : Option HO} (h : o = some (.frz o' u)) : NoL o := ⟨fun ys z => (by rw [h] at z; injection z with z; cases z), fun ys z => (by rw [h] at z; injection z with z; cases z)⟩
theorem NoL.non {o : Option HO} (h : o = none) : NoL o := ⟨fun ys z => (by rw [h] at z; cases z), fun ys z => (by rw [h] at z; cases z)⟩

/-! ### steps and keys in the heap -/
def StpAt (H : Hp) (a : Addr) (x : Stp) : Prop := H a = some (.tup [.int (sn x.1), .bl x.2])
def nvs (l : List Nat) : List V := l.map fun n : Nat => V.int n
def CmAt (H : Hp) (c : Addr) (k : Key) : Prop := H c = some (.tup [.int (k.came true), .int (k.came false)])
def HdAt (H : Hp) (h : Addr) (k : Key) : Prop := ∃ g : Bool → Addr, H h = some (.tup [.ref (g true), .ref (g false)]) ∧ ∀ f, H (g f) = some (.tup (nvs (k.heard f)))
def KeyAt (H : Hp) (a : Addr) (k : Key) : Prop := ∃ c h, H a = some (.tup [.ref c, .ref h]) ∧ CmAt H c k ∧ HdAt H h k
theorem HdAt.keep {H H' : Hp} {h : Addr} {k : Key} (t : TK H H') (x : HdAt H h k) : HdAt H' h k := by
  obtain ⟨g, a, b⟩ := x
  exact ⟨g, t _ _ a, fun f => t _ _ (b f)⟩
theorem KeyAt.keep {H H' : Hp} {a : Addr} {k : Key} (t : TK H H') (x : KeyAt H a k) : KeyAt H' a k := by
  obtain ⟨c, h, e, e1, e2⟩ := x
  exact ⟨c, h, t _ _ e, t _ _ e1, e2.keep t⟩
def nks (l : List Nat) : List NestedKey := l.map fun n : Nat => NestedKey.num n
def nk (k : Key) : NestedKey := .tup [.tup [.num (k.came true), .num (k.came false)], .tup [.tup (nks (k.heard true)), .tup (nks (k.heard false))]]
theorem nks_inj {a b : List Nat} (h : nks a = nks b) : a = b := by
  induction a generalizing b with
  | nil => cases b with
    | nil => rfl
    | cons y b => simp [nks] at h
  | cons x a ih => cases b with
    | nil => simp [nks] at h
    | cons y b =>
      simp only [nks, List.map_cons, List.cons.injEq, NestedKey.num.injEq] at h
      obtain ⟨h1, h2⟩ := h
      rw [ih h2, show x = y by omega]
theorem nk_inj {a b : Key} (h : nk a = nk b) : a = b := by
  obtain ⟨c1, h1⟩ := a
  obtain ⟨c2, h2⟩ := b
  simp only [nk, NestedKey.tup.injEq, List.cons.injEq, NestedKey.num.injEq, and_true] at h
  obtain ⟨⟨e1, e2⟩, e3, e4⟩ := h
  have e3 := nks_inj e3
  have e4 := nks_inj e4
  have ec : c1 = c2 := by funext f; cases f <;> omega
  have eh : h1 = h2 := by funext f; cases f; exact e4; exact e3
  rw [ec, eh]
theorem nks_depth (l : List Nat) : NestedKey.depthAll (nks l) = 0 := by
  induction l with
  | nil => rfl
  | cons x l ih =>
    show max 0 (NestedKey.depthAll (nks l)) = 0
    rw [ih]
    rfl
theorem nk_depth (k : Key) : (nk k).depth ≤ 8 := by
  simp [nk, NestedKey.depth, NestedKey.depthAll, nks_depth]
theorem ints_all {H : Hp} (l : List Nat) : KAll H (nks l) (nvs l) := by
  induction l with
  | nil => exact .nil
  | cons x l ih => exact .cons (.num _) ih
theorem key_trk {H : Hp} {a : Addr} {k : Key} (h : KeyAt H a k) : KTrk H (nk k) (.ref a) := by
  obtain ⟨c, hd, e, e1, g, e2, e3⟩ := h
  exact .tup e (.cons (.tup e1 (.cons (.num _) (.cons (.num _) .nil))) (.cons (.tup e2 (.cons (.tup (e3 true) (ints_all _)) (.cons (.tup (e3 false) (ints_all _)) .nil))) .nil))
/-- the steps that may come, in order -/
def op1 (n : Bool → Nat) (k : Key) (f : Bool) : List Stp := (if k.may n (f, true) then [(f, true)] else []) ++ (if k.may n (f, false) then [(f, false)] else [])
def opens (n : Bool → Nat) (k : Key) : List Stp := op1 n k true ++ op1 n k false
theorem opens_may {n : Bool → Nat} {k : Key} {x : Stp} : x ∈ opens n k ↔ k.may n x = true := by
  obtain ⟨f, b⟩ := x
  unfold opens op1
  cases h1 : k.may n (true, true) <;> cases h2 : k.may n (true, false) <;> cases h3 : k.may n (false, true) <;> cases h4 : k.may n (false, false) <;> cases f <;> cases b <;> simp [h1, h2, h3, h4]
theorem opens_len (n : Bool → Nat) (k : Key) : (opens n k).length ≤ 4 := by
  unfold opens op1
  cases k.may n (true, true) <;> cases k.may n (true, false) <;> cases k.may n (false, true) <;> cases k.may n (false, false) <;> decide
theorem sn_of {i : Nat} (h : i < 2) : ∃ f : Bool, (0 + (i : Int)) = sn f ∧ (i = 0 ∧ f = true ∨ i = 1 ∧ f = false) := by
  have : i = 0 ∨ i = 1 := by omega
  rcases this with rfl | rfl
  · exact ⟨true, rfl, .inl ⟨rfl, rfl⟩⟩
  · exact ⟨false, rfl, .inr ⟨rfl, rfl⟩⟩
theorem at_snI (g : Bool → Nat) (f : Bool) : atI [V.int (g true), V.int (g false)] (sn f) = some (.int (g f)) := by cases f <;> rfl
section
variable {P : Program} {w : World} {K : PySem.W.Frag} {mg : Str → Option Value} {base : Heap} {CS CY PA : Addr}

/-- two plans of so many choices -/
def LensAt (H : Hp) (p : Addr) (n : Bool → Nat) : Prop := ∃ (g : Bool → Addr), H p = some (.lst [.ref (g true), .ref (g false)]) ∧ ∀ f, ∃ xs, H (g f) = some (.lst xs) ∧ xs.length = n f
/-! ### steps_open(plans, came, heard) -/
def spOpen : Sp := fun vs H Q _ => ∃ (p c h : Addr) (n : Bool → Nat) (k : Key), vs = [.ref p, .ref c, .ref h] ∧ LensAt H p n ∧ CmAt H c k ∧ HdAt H h k ∧
  ∀ (l : Addr) (xs : List V) (H' : Hp), Same H H' → H l = none → H' l = some (.lst xs) → Row StpAt H' xs (opens n k) → Q (.ref l) H'
theorem scOpen : FnScope ["plans", "came", "heard", "found", "seat"] ["plans", "came", "heard"] (defScope sOpen) := ⟨rfl, rfl, rfl, by decide +kernel, rfl, by decide +kernel, by decide +kernel⟩
theorem ok_open {f : Addr} {fd : FuncData} (F : Fun K "steps_open" "steps_open" sOpen f fd) (T : Txt K w mg CS CY PA) : FnOk P w K mg base CX0 1 f fd ["plans", "came", "heard"] spOpen := by
  refine F.ok scOpen (fun vs H Q E h => ?_) (fun cdv A outer s H vs Q E hr h => ?_)
  · obtain ⟨p, c, h, n, k, rfl, _⟩ := h
    rfl
  · obtain ⟨p, c, h, n, k, rfl, ⟨g, hp, hg⟩, hc, ⟨e, he, hh⟩, q⟩ := h
    have nd := scOpen.nd
    refine ⟨_, pss_cons (ps_set (i := 3) nd rfl (Or.inl rfl) (pe_lst pa_nil))
      (pss_cons (ps_for PassesOwn.never rfl (pi_range1 rfl T.range (pa_cons pe_int pa_nil)) (pg_name (i := 4) nd rfl (Or.inl rfl))
        (Evl.pss_cut (ps_if (pt_cmpR op_lt (pe_callB call_len_seq (by rfl) T.len PySem.boot_len (pa_cons (pe_ix ix_tup (pv 2) (pv 4) (fun _ _ => rfl)) pa_nil)) (pe_callB call_len_seq (by rfl) T.len PySem.boot_len (pa_cons (pe_ix ix_list (pv 0) (pv 4) (fun _ _ => rfl)) pa_nil)) (nomark _))
            (pss_one (ps_expr (pe_bm PySem.F.plainAttrs_list PySem.F.slot_list_append PySem.F.type_list_append mt_append (pv 3) (pa_cons (pe_tup (pa_cons (pv 4) (pa_cons pe_bl pa_nil))) pa_nil)))) pss_nil)
          (pss_one (ps_if (pt_cmpR op_lt (pe_ix ix_tup (pv 1) (pv 4) (fun _ _ => rfl)) (pe_callB call_len_seq (by rfl) T.len PySem.boot_len (pa_cons (pe_ix ix_tup (pv 2) (pe_op op_sub pe_int (pv 4)) (fun _ _ => rfl)) pa_nil)) (nomark _))
            (pss_one (ps_expr (pe_bm PySem.F.plainAttrs_list PySem.F.slot_list_append PySem.F.type_list_append mt_append (pv 3) (pa_cons (pe_tup (pa_cons (pv 4) (pa_cons pe_bl pa_nil))) pa_nil)))) pss_nil))))
      (pss_one (ps_ret (pv 3)))), ?_⟩
    refine ⟨(by show 0 ≤ sizeLine; decide), fun l hl => ?_⟩
    have s0 := Same.new (.lst []) hl
    refine ⟨2, rfl, by decide, by decide, for_range (n := 2)
      (fun i σ H2 => ∃ (x : Option V) (xs : List V), σ = [some (.ref p), some (.ref c), some (.ref h), some (.ref l), x] ∧ Same H H2 ∧ H2 l = some (.lst xs) ∧ Row StpAt H2 xs ((if 1 ≤ i then op1 n k true else []) ++ (if 2 ≤ i then op1 n k false else [])) ∧ xs.length ≤ 100)
      ⟨none, [], rfl, s0, upd_same, trivial, by decide⟩ ?_ ?_⟩
    · rintro i σ H2 hi ⟨_, xs, rfl, s2, hl2, hr2, hz2⟩
      obtain ⟨f, ef, hf⟩ := sn_of hi
      rw [ef]
      -- the row ahead of it
      generalize hL : ((if 1 ≤ i then op1 n k true else []) ++ (if 2 ≤ i then op1 n k false else [])) = L at hr2
      have hL2 : ((if 1 ≤ i + 1 then op1 n k true else []) ++ (if 2 ≤ i + 1 then op1 n k false else [])) = L ++ op1 n k f := by
        rw [← hL]
        rcases hf with ⟨rfl, rfl⟩ | ⟨rfl, rfl⟩ <;> simp
      rw [hL2]
      have addOne : ∀ (H3 : Hp) (b : Bool) (ys : List V) (M : List Stp), Same H H3 → H3 l = some (.lst ys) → Row StpAt H3 ys M → ∀ t, H3 t = none →
          Same H (upd (upd H3 t (.tup [.int (sn f), .bl b])) l (.lst (ys ++ [.ref t]))) ∧ Row StpAt (upd (upd H3 t (.tup [.int (sn f), .bl b])) l (.lst (ys ++ [.ref t]))) (ys ++ [.ref t]) (M ++ [(f, b)]) := fun H3 b ys M s3 l3 r3 t ht => by
        have hlt : l ≠ t := ne_of_none l3 ht
        have st := Same.new (.tup [.int (sn f), .bl b]) ht
        have tt : TK H3 (upd (upd H3 t (.tup [.int (sn f), .bl b])) l (.lst (ys ++ [.ref t]))) := (TK.of st).trans (TK.upd _ (NoT.lst (st _ _ l3)))
        refine ⟨fun a u e => ?_, (r3.mono fun a d h => tt _ _ h).snoc ?_⟩
        · rw [upd_ne (ne_of_none e hl)]
          exact st _ _ (s3 _ _ e)
        · exact (upd_ne hlt.symm).trans upd_same
      refine ⟨fun σ' H3 => ∃ (xs : List V), σ' = [some (.ref p), some (.ref c), some (.ref h), some (.ref l), some (.int (sn f))] ∧ Same H H3 ∧ H3 l = some (.lst xs) ∧ Row StpAt H3 xs (L ++ (if k.may n (f, true) then [(f, true)] else [])) ∧ xs.length ≤ 101, ?_, ?_⟩
      · obtain ⟨zs, z1, z2⟩ := hg f
        refine ⟨_, rfl, _, rfl, _, _, _, _, rfl, rfl, SqT.of (s2 _ _ he), at_sn e f, _, _, rfl, .inr (SqT.of (s2 _ _ (hh f))), _, rfl, _, rfl, _, _, _, _, rfl, rfl, SqL.of (s2 _ _ hp), at_sn g f, _, _, rfl, .inl (SqL.of (s2 _ _ z1)), _, _, rfl, rfl, _, rfl, ?_⟩
        have hlen : (nvs (k.heard f)).length = (k.heard f).length := by simp [nvs]
        by_cases hm : (k.heard f).length < n f
        · have em : k.may n (f, true) = true := by simp [Key.may, hm]
          refine iteD (by rw [hlen, z2]; omega) ?_
          refine ⟨_, rfl, .inl ⟨rfl, _, SqL.of hl2⟩, _, rfl, (by show 2 ≤ sizeLine; decide), fun t ht => ?_⟩
          obtain ⟨a1, a2⟩ := addOne H2 true xs L s2 hl2 hr2 t ht
          refine ⟨l, xs, _, rfl, rfl, (Same.new _ ht) _ _ hl2, small (by omega), ?_⟩
          refine ⟨_, rfl, a1, upd_same, ?_, by rw [List.length_append]; show _ + 1 ≤ 101; omega⟩
          rw [if_pos em]
          exact a2
        · have em : ¬ (k.may n (f, true) = true) := by simp [Key.may, hm]
          refine iteDn (by rw [hlen, z2]; omega) ?_
          refine ⟨xs, rfl, s2, hl2, ?_, by omega⟩
          rw [if_neg em, List.append_nil]
          exact hr2
      · rintro σ' H3 ⟨ys, rfl, s3, l3, r3, z3⟩
        refine ⟨_, rfl, _, rfl, _, _, _, _, rfl, rfl, SqT.of (s3 _ _ hc), at_snI k.came f, _, rfl, _, rfl, _, _, rfl, rfl, _, _, _, _, rfl, rfl, SqT.of (s3 _ _ he), at_sn1 e f, _, _, rfl, .inr (SqT.of (s3 _ _ (hh (!f)))), _, _, rfl, rfl, _, rfl, ?_⟩
        have hlen : (nvs (k.heard (!f))).length = (k.heard (!f)).length := by simp [nvs]
        have eo : L ++ op1 n k f = L ++ (if k.may n (f, true) then [(f, true)] else []) ++ (if k.may n (f, false) then [(f, false)] else []) := by
          unfold op1
          rw [List.append_assoc]
        rw [eo]
        have fl : ∀ (zs : List V) (H9 : Hp), Row StpAt H9 zs (L ++ (if k.may n (f, true) then [(f, true)] else []) ++ (if k.may n (f, false) then [(f, false)] else [])) → zs.length ≤ 100 := fun zs H9 h9 => by
          rw [h9.len, ← eo, ← hL2]
          have : (op1 n k true).length ≤ 2 := by unfold op1; cases k.may n (true, true) <;> cases k.may n (true, false) <;> decide
          have : (op1 n k false).length ≤ 2 := by unfold op1; cases k.may n (false, true) <;> cases k.may n (false, false) <;> decide
          rw [List.length_append]
          split <;> split <;> simp <;> omega
        by_cases hm : k.came f < (k.heard (!f)).length
        · have em : k.may n (f, false) = true := by simp [Key.may, hm]
          refine iteD (by rw [hlen]; omega) ?_
          refine ⟨_, rfl, .inl ⟨rfl, _, SqL.of l3⟩, _, rfl, (by show 2 ≤ sizeLine; decide), fun t ht => ?_⟩
          obtain ⟨a1, a2⟩ := addOne H3 false ys _ s3 l3 r3 t ht
          refine ⟨l, ys, _, rfl, rfl, (Same.new _ ht) _ _ l3, small (by omega), ?_⟩
          have a3 : Row StpAt (upd (upd H3 t (.tup [.int (sn f), .bl false])) l (.lst (ys ++ [.ref t]))) (ys ++ [.ref t]) (L ++ (if k.may n (f, true) then [(f, true)] else []) ++ (if k.may n (f, false) then [(f, false)] else [])) := by
            rw [if_pos em]; exact a2
          exact ⟨_, _, rfl, a1, upd_same, a3, fl _ _ a3⟩
        · have em : ¬ (k.may n (f, false) = true) := by simp [Key.may, hm]
          refine iteDn (by rw [hlen]; omega) ?_
          have a3 : Row StpAt H3 ys (L ++ (if k.may n (f, true) then [(f, true)] else []) ++ (if k.may n (f, false) then [(f, false)] else [])) := by
            rw [if_neg em, List.append_nil]; exact r3
          exact ⟨_, ys, rfl, s3, l3, a3, fl _ _ a3⟩
    · rintro σ H2 ⟨_, xs, rfl, s2, hl2, hr2, hz2⟩
      exact ⟨_, rfl, q l xs H2 s2 hl hl2 hr2⟩
end
end Far
end

section
set_option linter.all false
set_option maxRecDepth 100000
set_option maxHeartbeats 4000000
namespace Far
open PySem PySem.Spec PyProof.Rows L2 FarN FarR
section
variable {P : Program} {w : World} {K : PySem.W.Frag} {mg : Str → Option Value} {base : Heap} {CS CY PA : Addr}
/-! ### key_behind(came, heard, step) -/
def spKeyB : Sp := fun vs H Q _ => ∃ (c h s : Addr) (k : Key) (x : Stp), vs = [.ref c, .ref h, .ref s] ∧ CmAt H c k ∧ HdAt H h k ∧ StpAt H s x ∧ (∀ f, (k.heard f).length ≤ 900) ∧
  ∀ (a : Addr) (H' : Hp), Same H H' → KeyAt H' a (k.next x) → Q (.ref a) H'
theorem scKeyB : FnScope ["came", "heard", "step", "seat", "making", "longer"] ["came", "heard", "step"] (defScope sKeyB) := ⟨rfl, rfl, rfl, by decide +kernel, rfl, by decide +kernel, by decide +kernel⟩
theorem ok_key {f : Addr} {fd : FuncData} (F : Fun K "key_behind" "key_behind" sKeyB f fd) : FnOk P w K mg base CX0 1 f fd ["came", "heard", "step"] spKeyB := by
  refine F.ok scKeyB (fun vs H Q E h => ?_) (fun cdv A outer s H vs Q E hr h => ?_)
  · obtain ⟨c, h, s, k, x, rfl, _⟩ := h
    rfl
  · obtain ⟨c, h, st, k, ⟨f, b⟩, rfl, hc, hh, hs, hz, q⟩ := h
    have nd := scKeyB.nd
    refine ⟨_, pss_cons (ps_asg (pv 2) (pg_tup (by rfl) (pgs_cons (pg_name (i := 3) nd rfl (Or.inl rfl)) (pgs_cons (pg_name (i := 4) nd rfl (Or.inl rfl)) pgs_nil))))
      (pss_cons (ps_if (pt_val (pv 4))
        (pss_cons (ps_set (i := 5) nd rfl (Or.inl rfl) (pe_op op_catA (pe_ix ix_tup (pv 1) (pv 3) (fun _ _ => rfl)) (pe_tup (pa_cons (pe_ix ix_tup (pv 0) (pv 3) (fun _ _ => rfl)) pa_nil))))
          (pss_one (ps_ret (pe_tup (pa_cons (pv 0) (pa_cons (pe_ifExp (pt_cmpR op_eq (pv 3) pe_int (nomark _)) (pe_tup (pa_cons (pv 5) (pa_cons (pe_ix ix_tup (pv 1) pe_int (fun _ _ => rfl)) pa_nil))) (pe_tup (pa_cons (pe_ix ix_tup (pv 1) pe_int (fun _ _ => rfl)) (pa_cons (pv 5) pa_nil)))) pa_nil)))))) pss_nil)
      (pss_one (ps_ret (pe_tup (pa_cons (pe_ifExp (pt_cmpR op_eq (pv 3) pe_int (nomark _))
          (pe_tup (pa_cons (pe_op op_add (pe_ix ix_tup (pv 0) pe_int (fun _ _ => rfl)) pe_int) (pa_cons (pe_ix ix_tup (pv 0) pe_int (fun _ _ => rfl)) pa_nil)))
          (pe_tup (pa_cons (pe_ix ix_tup (pv 0) pe_int (fun _ _ => rfl)) (pa_cons (pe_op op_add (pe_ix ix_tup (pv 0) pe_int (fun _ _ => rfl)) pe_int) pa_nil)))) (pa_cons (pv 1) pa_nil)))))), ?_⟩
    obtain ⟨g, hh1, hh2⟩ := id hh
    refine ⟨_, rfl, _, _, rfl, SqT.of hs, rfl, _, _, rfl, _, _, rfl, rfl, ?_⟩
    refine ⟨_, rfl, b, rfl, ?_⟩
    cases b with
    | true =>
      refine iteT ?_
      refine ⟨_, rfl, _, rfl, _, _, _, _, rfl, rfl, SqT.of hh1, at_sn g f, _, rfl, _, rfl, _, _, _, _, rfl, rfl, SqT.of hc, at_snI k.came f, (by show 1 ≤ sizeLine; decide), fun t ht => ?_⟩
      have s1 := Same.new (.tup [.int (k.came f)]) ht
      have hz2 : (nvs (k.heard f)).length + 1 ≤ sizeLine := by
        have := hz f
        exact small' (by simp only [nvs, List.length_map]; omega)
      -- the longer row stands at some place
      suffices rest : ∀ (u : Addr) (H2 : Hp), Same H H2 → H2 u = some (.tup (nvs (k.heard f ++ [k.came f]))) →
          (tRet (tTup (tCons (tVar 0) (tCons (tIf (tTest (tOp rEq (tVar 3) (tC (.int 0)))) (tTup (tCons (tVar 5) (tCons (tOp (rIxT K) (tVar 1) (tC (.int 1))) tNil))) (tTup (tCons (tOp (rIxT K) (tVar 1) (tC (.int 0))) (tCons (tVar 5) tNil)))) tNil)))) { nx := fun _ H' => Q .non H', rt := Q } [some (V.ref c), some (.ref h), some (.ref st), some (.int (sn f)), some (.bl true), some (.ref u)] H2 by
        refine ⟨_, _, _, _, rfl, rfl, SqT.of (s1 _ _ (hh2 f)), SqT.of upd_same, hz2, fun e => ?_, fun _ e => absurd e (by simp), fun _ _ u hu => ?_⟩
        · refine rest t _ s1 ?_
          have e0 : k.heard f = [] := by simpa [nvs] using e
          rw [e0]
          exact upd_same
        · refine rest u _ (s1.trans (Same.new _ hu)) ?_
          rw [upd_same]
          simp [nvs]
      intro u H2 s2 hu
      refine ⟨_, rfl, ?_⟩
      have fin : ∀ (a1 : Addr) (H3 : Hp), Same H2 H3 → HdAt H3 a1 (k.next (f, true)) → ∀ p, H3 p = none → Q (.ref p) (upd H3 p (.tup [.ref c, .ref a1])) := fun a1 H3 s3 h3 p hp => by
        have s4 := Same.new (.tup [.ref c, .ref a1]) hp
        exact q p _ ((s2.trans s3).trans s4) ⟨c, a1, upd_same, s4 _ _ (s3 _ _ (s2 _ _ hc)), h3.keep (TK.of s4)⟩
      cases f with
      | true =>
        refine ⟨_, rfl, rfl, true, by decide, iteT ?_⟩
        refine ⟨_, rfl, _, rfl, _, _, _, _, rfl, rfl, SqT.of (s2 _ _ hh1), at_of (j := 1) rfl rfl, (by show 2 ≤ sizeLine; decide), fun p hp => ⟨(by show 2 ≤ sizeLine; decide), fin p _ (Same.new _ hp) ⟨updB g true u, upd_same, fun f => ?_⟩⟩⟩
        have s3 := Same.new (.tup [.ref u, .ref (g false)]) hp
        cases f with
        | true => exact s3 _ _ hu
        | false => exact s3 _ _ (s2 _ _ (hh2 false))
      | false =>
        refine ⟨_, rfl, rfl, false, by decide, iteF ?_⟩
        refine ⟨_, rfl, _, _, _, _, rfl, rfl, SqT.of (s2 _ _ hh1), at_of (j := 0) rfl rfl, _, rfl, (by show 2 ≤ sizeLine; decide), fun p hp => ⟨(by show 2 ≤ sizeLine; decide), fin p _ (Same.new _ hp) ⟨updB g false u, upd_same, fun f => ?_⟩⟩⟩
        have s3 := Same.new (.tup [.ref (g true), .ref u]) hp
        cases f with
        | true => exact s3 _ _ (s2 _ _ (hh2 true))
        | false => exact s3 _ _ hu
    | false =>
      refine iteF ?_
      have fin : ∀ (a1 : Addr) (H3 : Hp), Same H H3 → CmAt H3 a1 (k.next (f, false)) → ∀ p, H3 p = none → Q (.ref p) (upd H3 p (.tup [.ref a1, .ref h])) := fun a1 H3 s3 h3 p hp => by
        have s4 := Same.new (.tup [.ref a1, .ref h]) hp
        exact q p _ (s3.trans s4) ⟨a1, h, upd_same, s4 _ _ h3, (show HdAt H h (k.next (f, false)) from hh).keep (TK.of (s3.trans s4))⟩
      refine ⟨_, rfl, ?_⟩
      cases f with
      | true =>
        refine ⟨rfl, true, by decide, iteT ?_⟩
        refine ⟨_, rfl, _, _, _, _, rfl, rfl, SqT.of hc, at_of (j := 0) rfl rfl, _, _, rfl, rfl, _, rfl, _, _, _, _, rfl, rfl, SqT.of hc, at_of (j := 1) rfl rfl, (by show 2 ≤ sizeLine; decide), fun p hp => ⟨_, rfl, (by show 2 ≤ sizeLine; decide), fin p _ (Same.new _ hp) upd_same⟩⟩
      | false =>
        refine ⟨rfl, false, by decide, iteF ?_⟩
        refine ⟨_, rfl, _, _, _, _, rfl, rfl, SqT.of hc, at_of (j := 0) rfl rfl, _, rfl, _, _, _, _, rfl, rfl, SqT.of hc, at_of (j := 1) rfl rfl, _, _, rfl, rfl, (by show 2 ≤ sizeLine; decide), fun p hp => ⟨_, rfl, (by show 2 ≤ sizeLine; decide), fin p _ (Same.new _ hp) upd_same⟩⟩
end
end Far
end

section
set_option linter.all false
set_option maxRecDepth 100000
set_option maxHeartbeats 4000000
namespace Far
open PySem PySem.Spec PyProof.Rows L2 FarN FarR
theorem hu10 {A : Around} {k : Nat} (hr : Room k A) : A.units + 10 < cLine := by have := hr.units; omega
/-! ### a layer of the runs -/
/-- what an entry's value is: a way to the key -/
def ValOk (n : Bool → Nat) (t : Nat) (k : Key) (H : Hp) (b : Addr) : Prop := ∃ (st : List Stp) (sl : Addr) (ys : List V) (m : Int),
  H b = some (.tup [.ref sl, .int m]) ∧ H sl = some (.lst ys) ∧ Row StpAt H ys st ∧ Way n key0 st ∧ key0.after st = k ∧ st.length = t
def EntOk (n : Bool → Nat) (t : Nat) (H : Hp) (x : Ent) : Prop := ∃ k, x.1 = nk k ∧ KeyAt H x.2.1 k ∧ ValOk n t k H x.2.2
def LayerAt (P : Program) (w : World) (n : Bool → Nat) (t : Nat) (H : Hp) (d : Addr) : Prop := ∃ xs, H d = some (ND P w d xs) ∧ (∀ x ∈ xs, EntOk n t H x) ∧ xs ≠ [] ∧ xs.length ≤ 4 ^ t
theorem StpAt.keep {H H' : Hp} (t : TK H H') (a : Addr) (x : Stp) (h : StpAt H a x) : StpAt H' a x := t _ _ h
theorem ValOk.keep {n : Bool → Nat} {t : Nat} {k : Key} {H H' : Hp} {b : Addr} (tl : TL H H') (h : ValOk n t k H b) : ValOk n t k H' b := by
  obtain ⟨st, sl, ys, m, h1, h2, h3, h4⟩ := h
  exact ⟨st, sl, ys, m, tl.1 _ _ h1, tl.2 _ _ h2, h3.mono (StpAt.keep tl.1), h4⟩
theorem EntOk.keep {n : Bool → Nat} {t : Nat} {H H' : Hp} {x : Ent} (tl : TL H H') (h : EntOk n t H x) : EntOk n t H' x := by
  obtain ⟨k, h1, h2, h3⟩ := h
  exact ⟨k, h1, h2.keep tl.1, h3.keep tl⟩
theorem ents_keys {n : Bool → Nat} {t : Nat} {H : Hp} {xs : List Ent} (h : ∀ x ∈ xs, EntOk n t H x) : NKeys H xs := fun x hx => by
  obtain ⟨k, h1, h2, _⟩ := h x hx
  rw [h1]
  exact ⟨key_trk h2, nk_depth k⟩
theorem getN_mem {xs : List Ent} {k : NestedKey} {b : Addr} (h : getN xs k = some b) : ∃ a, (k, a, b) ∈ xs := by
  unfold getN at h
  cases e : xs.find? (fun x => decide (x.1 = k)) with
  | none => rw [e] at h; cases h
  | some x =>
    rw [e] at h
    have m := List.mem_of_find?_eq_some e
    have p := List.find?_some e
    simp only [decide_eq_true_eq] at p
    obtain ⟨x1, x2, x3⟩ := x
    have e3 : x3 = b := Option.some.inj h
    simp only at p
    rw [← p, ← e3]
    exact ⟨x2, m⟩
theorem putN_mem {xs : List Ent} {k : NestedKey} {a b : Addr} {y : Ent} (h : y ∈ putN xs k a b) : y ∈ xs ∨ y = (k, a, b) ∨ ∃ a' b', (k, a', b') ∈ xs ∧ y = (k, a', b) := by
  unfold putN at h
  split at h
  · obtain ⟨x, hx, rfl⟩ := List.mem_map.mp h
    by_cases e : x.1 = k
    · rw [if_pos e]
      obtain ⟨x1, x2, x3⟩ := x
      simp only at e
      subst e
      exact .inr (.inr ⟨x2, x3, hx, rfl⟩)
    · rw [if_neg e]
      exact .inl hx
  · rcases List.mem_append.mp h with h | h
    · exact .inl h
    · exact .inr (.inl (List.mem_singleton.mp h))
theorem putN_ne {xs : List Ent} {k : NestedKey} {a b : Addr} : putN xs k a b ≠ [] := by
  unfold putN
  split
  · rename_i h
    intro z
    have : xs = [] := by simpa using z
    rw [this] at h
    simp [getN] at h
  · simp
theorem way_key {n : Bool → Nat} {st : List Stp} {k : Key} (hw : Way n key0 st) (e : key0.after st = k) : KeyIn n k ∧ k.size = st.length := by
  obtain ⟨h1, h2⟩ := way_in (keyIn0 n) hw
  rw [e] at h1 h2
  refine ⟨h1, ?_⟩
  rw [h2]
  simp [Key.size, key0]
section
variable {P : Program} {w : World} {K : PySem.W.Frag} {mg : Str → Option Value} {base : Heap} {CS CY PA : Addr}
def spGrown (P : Program) (w : World) : Sp := fun vs H Q _ => ∃ (p d : Addr) (n : Bool → Nat) (t : Nat), vs = [.ref p, .ref d] ∧ LensAt H p n ∧ LayerAt P w n t H d ∧ t < 2 * n true + 2 * n false ∧ t ≤ 11 ∧ (∀ f, n f ≤ 3) ∧
  ∀ (d' : Addr) (H' : Hp), Same H H' → LayerAt P w n (t + 1) H' d' → Q (.ref d') H'
theorem scGrown : FnScope ["plans", "layer", "found", "came", "heard", "steps", "many", "step", "key", "row", "others"] ["plans", "layer"] (defScope sGrown) := ⟨rfl, rfl, rfl, by decide +kernel, rfl, by decide +kernel, by decide +kernel⟩
theorem LensAt.keep {H H' : Hp} {p : Addr} {n : Bool → Nat} (t : TL H H') (h : LensAt H p n) : LensAt H' p n := by
  obtain ⟨g, h1, h2⟩ := h
  refine ⟨g, t.2 _ _ h1, fun f => ?_⟩
  obtain ⟨xs, h3, h4⟩ := h2 f
  exact ⟨xs, t.2 _ _ h3, h4⟩
theorem ok_grown {f : Addr} {fd : FuncData} (F : Fun K "grown" "grown" sGrown f fd) (T : Txt K w mg CS CY PA) (GO : FnG P w K mg base 1 "steps_open" ["plans", "came", "heard"] spOpen) (GK : FnG P w K mg base 1 "key_behind" ["came", "heard", "step"] spKeyB) :
    FnOk P w K mg base CX0 2 f fd ["plans", "layer"] (spGrown P w) := by
  refine F.ok scGrown (fun vs H Q E h => ?_) (fun cdv A outer s H vs Q E hr h => ?_)
  · obtain ⟨p, d, n, t, rfl, _⟩ := h
    rfl
  · obtain ⟨p, d, n, t, rfl, hp, ⟨xs, hd, hx, hne, hlen⟩, ht, ht11, hn3, q⟩ := h
    have nd := scGrown.nd
    refine ⟨_, pss_cons (ps_set (i := 2) nd rfl (Or.inl rfl) pe_nnew)
      (pss_cons (ps_lock (ps_for PassesOwn.never rfl (pi_nitems (pv 1)) (pg_tup (by rfl) (pgs_cons (pg_tup (by rfl) (pgs_cons (pg_name (i := 3) nd rfl (Or.inl rfl)) (pgs_cons (pg_name (i := 4) nd rfl (Or.inl rfl)) pgs_nil)))
            (pgs_cons (pg_tup (by rfl) (pgs_cons (pg_name (i := 5) nd rfl (Or.inl rfl)) (pgs_cons (pg_name (i := 6) nd rfl (Or.inl rfl)) pgs_nil))) pgs_nil)))
          (pss_one (ps_for PassesOwn.never rfl (pi_list (pcall GO hr (by decide) rfl (pa_cons (pv 0) (pa_cons (pv 3) (pa_cons (pv 4) pa_nil))))) (pg_name (i := 7) nd rfl (Or.inl rfl))
            (pss_cons (ps_set (i := 8) nd rfl (Or.inl rfl) (pcall GK hr (by decide) rfl (pa_cons (pv 3) (pa_cons (pv 4) (pa_cons (pv 7) pa_nil)))))
            (pss_cons (ps_asg (pe_nget2 (hu10 hr) (pv 2) (pv 8) (pe_tup (pa_cons (pe_op op_cat (pv 5) (pe_lst (pa_cons (pv 7) pa_nil))) (pa_cons pe_int pa_nil))) ⟨rfl, rfl, rfl, rfl⟩)
                (pg_tup (by rfl) (pgs_cons (pg_name (i := 9) nd rfl (Or.inl rfl)) (pgs_cons (pg_name (i := 10) nd rfl (Or.inl rfl)) pgs_nil))))
              (pss_one (ps_asg (pe_tup (pa_cons (pv 9) (pa_cons (pe_op op_add (pv 10) (pv 6)) pa_nil))) (pg_sub (pv 2) (pv 8) (set_nd (hu10 hr)))))))))))
      (pss_one (ps_ret (pv 2)))), ?_⟩
    refine fun fo hfo => ?_
    have hfd : d ≠ fo := ne_of_none hd hfo
    have s0 := Same.new (ND P w fo []) hfo
    have e16 : (4 : Nat) ^ (t + 1) ≤ 16777216 := by
      have : (4 : Nat) ^ (t + 1) ≤ 4 ^ 12 := Nat.pow_le_pow_right (by decide) (by omega)
      exact Nat.le_trans this (by decide)
    have e4 : (4 : Nat) ^ (t + 1) = 4 * 4 ^ t := by rw [Nat.pow_succ]; omega
    refine ⟨d, ND P w d xs, s0 _ _ hd, ND.mut, fun od => ?_⟩
    -- from the start to within
    have tlu : ∀ {H2 : Hp}, (∀ b u, b ≠ d → H b = some u → H2 b = some u) → TL H H2 := fun {H2} k => ⟨fun a zs e => k _ _ (fun z => by rw [z, hd] at e; injection e with e; cases e) e, fun a zs e => k _ _ (fun z => by rw [z, hd] at e; injection e with e; cases e) e⟩
    have hdF : upd (upd H fo (ND P w fo [])) d (.frz od (ND P w d xs)) d = some (.frz od (ND P w d xs)) := upd_same
    have kF : ∀ b u, b ≠ d → H b = some u → upd (upd H fo (ND P w fo [])) d (.frz od (ND P w d xs)) b = some u := fun b u h e => by
      rw [upd_ne h]
      exact s0 _ _ e
    have foF : upd (upd H fo (ND P w fo [])) d (.frz od (ND P w d xs)) fo = some (ND P w fo []) := by rw [upd_ne hfd.symm]; exact upd_same
    refine ⟨_, rfl, d, od, xs, rfl, hdF, for_nitems (xs := xs)
      (fun i σ H2 => ∃ (x3 x4 x5 x6 x7 x8 x9 x10 : Option V) (ys : List Ent), σ = [some (.ref p), some (.ref d), some (.ref fo), x3, x4, x5, x6, x7, x8, x9, x10] ∧ H2 d = some (.frz od (ND P w d xs)) ∧ (∀ b u, b ≠ d → H b = some u → H2 b = some u) ∧
        H2 fo = some (ND P w fo ys) ∧ (∀ y ∈ ys, EntOk n (t + 1) H2 y) ∧ ys.length ≤ 4 * i ∧ (0 < i → ys ≠ []))
      ⟨none, none, none, none, none, none, none, none, [], rfl, hdF, kF, foF, (fun y hy => nomatch hy), Nat.zero_le _, fun z => absurd z (by decide)⟩ ?_ ?_ ?_⟩
    · rintro i σ H2 _ ⟨_, _, _, _, _, _, _, _, _, _, h2, _⟩
      exact h2
    · rintro i x σ H2 T0 hxi ⟨_, _, _, _, _, _, _, _, ys, rfl, hd2, k2, fo2, hy2, l2, _⟩ hT0
      have hil : i < xs.length := (List.getElem?_eq_some_iff.mp hxi).1
      obtain ⟨k, ek, hk, st, sl, zs, many, v1, v2, v3, v4, v5, v6⟩ := (hx x (List.mem_of_getElem? hxi)).keep (tlu k2)
      have sT := Same.new (.tup [.ref x.2.1, .ref x.2.2]) hT0
      generalize hH3 : upd H2 T0 (.tup [.ref x.2.1, .ref x.2.2]) = H3 at sT
      have T3 : H3 T0 = some (.tup [.ref x.2.1, .ref x.2.2]) := hH3 ▸ upd_same
      obtain ⟨c, h, k1, kc, kh⟩ := hk
      obtain ⟨kin, ksz⟩ := way_key v4 v5
      refine ⟨T0, _, rfl, SqT.of T3, rfl, _, _, rfl, x.2.1, _, rfl, SqT.of (sT _ _ k1), rfl, _, _, rfl, _, _, rfl, rfl, _, _, rfl, x.2.2, _, rfl, SqT.of (sT _ _ v1), rfl, _, _, rfl, _, _, rfl, rfl, rfl, ?_⟩
      refine ⟨_, rfl, _, rfl, _, rfl, p, c, h, n, k, rfl, (hp.keep (tlu k2)).keep (TL.of sT), sT _ _ kc, kh.keep (TK.of sT), fun l ls H4 s4 l4n l4 r4 => ?_⟩
      have s34 := sT.trans s4
      have oplen := opens_len n k
      have lslen := r4.len
      have opne : opens n k ≠ [] := by
        obtain ⟨z, hz⟩ := kin.more (by rw [ksz, v6]; exact ht)
        exact fun e => by have := opens_may.mpr hz; rw [e] at this; cases this
      have k4 : ∀ b u, b ≠ d → H b = some u → H4 b = some u := fun b u h e => s34 _ _ (k2 b u h e)
      refine ⟨l, rfl, ⟨ls, SqL.of l4⟩, for_list (xs := ls)
        (fun j σ H5 => ∃ (x7 x8 x9 x10 : Option V) (ys : List Ent), σ = [some (.ref p), some (.ref d), some (.ref fo), some (.ref c), some (.ref h), some (.ref sl), some (.int many), x7, x8, x9, x10] ∧ H5 d = some (.frz od (ND P w d xs)) ∧ TL H4 H5 ∧ (∀ b u, b ≠ d → H b = some u → H5 b = some u) ∧
          H5 fo = some (ND P w fo ys) ∧ (∀ y ∈ ys, EntOk n (t + 1) H5 y) ∧ ys.length ≤ 4 * i + j ∧ (0 < j → ys ≠ []))
        ⟨_, _, _, _, ys, rfl, s34 _ _ hd2, TL.refl _, k4, s34 _ _ fo2, fun y hy => (hy2 y hy).keep (TL.of s34), l2, fun z => absurd z (by decide)⟩ ?_ ?_ ?_⟩
      · rintro j σ H5 _ ⟨_, _, _, _, _, _, _, tl5, _⟩
        exact SqL.of (tl5.2 _ _ l4)
      · rintro j v σ H5 hvj ⟨_, _, _, _, ys, rfl, hd5, tl5, k5, fo5, hy5, l5, _⟩
        obtain ⟨s, xs', rfl, hsx, hs4⟩ := r4.at hvj
        have hjl : j < ls.length := (List.getElem?_eq_some_iff.mp hvj).1
        have hmay : k.may n xs' = true := opens_may.mp (List.mem_of_getElem? hsx)
        have tl35 : TL H3 H5 := (TL.of s4).trans tl5
        have tl25 : TL H2 H5 := (TL.of s34).trans tl5
        refine ⟨_, rfl, _, rfl, _, rfl, c, h, s, k, xs', rfl, tl25.1 _ _ kc, kh.keep tl25.1, tl5.1 _ _ hs4, fun f => Nat.le_trans (Nat.le_trans (kin.h f) (hn3 f)) (by decide), fun ka H6 s6 hka => ?_⟩
        have tl6 := tl5.trans (TL.of s6)
        have tl26 := tl25.trans (TL.of s6)
        have fo6 := s6 _ _ fo5
        have sl6 := tl26.2 _ _ v2
        refine ⟨_, rfl, fo, rfl, ⟨ys, fo6⟩, _, rfl, _, rfl, _, rfl, (by show 1 ≤ sizeLine; decide), fun b1 hb1 => ?_⟩
        have s7 := Same.new (.lst [.ref s]) hb1
        have stl : st.length ≤ 12 := by omega
        refine ⟨sl, b1, zs, _, rfl, rfl, s7 _ _ sl6, upd_same, small' (by rw [List.length_append.symm.trans (by simp : (zs ++ [V.ref s]).length = zs.length + 1), v3.len]; omega), fun b2 hb2 => ⟨(by show 2 ≤ sizeLine; decide), fun b3 hb3 => ?_⟩⟩
        have s8 := Same.new (.lst (zs ++ [.ref s])) hb2
        have s9 := Same.new (.tup [.ref b2, .int 0]) hb3
        generalize hH9 : upd (upd (upd H6 b1 (.lst [.ref s])) b2 (.lst (zs ++ [.ref s]))) b3 (.tup [.ref b2, .int 0]) = H9 at s9
        have b39 : H9 b3 = some (.tup [.ref b2, .int 0]) := hH9 ▸ upd_same
        have b29 : H9 b2 = some (.lst (zs ++ [.ref s])) := s9 _ _ upd_same
        have s69 : Same H6 H9 := (s7.trans s8).trans s9
        have tl9 := tl6.trans (TL.of s69)
        have tl29 := tl26.trans (TL.of s69)
        have hy9 : ∀ y ∈ ys, EntOk n (t + 1) H9 y := fun y hy => (hy5 y hy).keep ((TL.of s6).trans (TL.of s69))
        have ka9 := hka.keep (TK.of s69)
        refine ⟨ys, nk (k.next xs'), ka, rfl, s69 _ _ fo6, ents_keys hy9, key_trk ka9, nk_depth _, ?_⟩
        -- the row that stands there, or the new one
        have hval : ∃ vb, ((getN ys (nk (k.next xs'))).map V.ref).getD (.ref b3) = .ref vb ∧ ValOk n (t + 1) (k.next xs') H9 vb := by
          cases hg : getN ys (nk (k.next xs')) with
          | none =>
            refine ⟨b3, rfl, st ++ [xs'], b2, _, 0, b39, b29, (v3.mono (StpAt.keep tl29.1)).snoc (tl9.1 _ _ hs4), (way_snoc _ _ _ _).mpr ⟨v4, by rw [v5]; exact hmay⟩, by rw [Key.after_snoc, v5], by rw [List.length_append]; show _ + 1 = _; omega⟩
          | some vb =>
            obtain ⟨a', hm⟩ := getN_mem hg
            obtain ⟨k', q1, _, q3⟩ := hy9 _ hm
            have e := nk_inj q1
            rw [← e] at q3
            exact ⟨vb, rfl, q3⟩
        obtain ⟨vb, evb, st', rl, rs, m', w1, w2, w3, w4, w5, w6⟩ := hval
        rw [evb]
        refine ⟨vb, _, rfl, SqT.of w1, rfl, _, _, rfl, _, _, rfl, rfl, ?_⟩
        refine ⟨_, rfl, _, rfl, _, rfl, _, _, rfl, rfl, (by show 2 ≤ sizeLine; decide), fun b4 hb4 => ?_⟩
        have s10 := Same.new (.tup [.ref rl, .int (m' + many)]) hb4
        generalize hH10 : upd H9 b4 (.tup [.ref rl, .int (m' + many)]) = H10 at s10
        have b410 : H10 b4 = some (.tup [.ref rl, .int (m' + many)]) := hH10 ▸ upd_same
        have hy10 : ∀ y ∈ ys, EntOk n (t + 1) H10 y := fun y hy => (hy9 y hy).keep (TL.of s10)
        have fo10 := s10 _ _ (s69 _ _ fo6)
        have ka10 := ka9.keep (TK.of s10)
        have vn : ValOk n (t + 1) (k.next xs') H10 b4 := ⟨st', rl, rs, _, b410, s10 _ _ w2, w3.mono (StpAt.keep (TK.of s10)), w4, w5, w6⟩
        have hxl : 4 * xs.length ≤ 16777216 := by omega
        have hsz : ys.length < sizeLine := by
          have e : sizeLine = 16777216 := sizeLine_eq
          rw [e]
          omega
        refine ⟨_, rfl, _, rfl, fo, ys, nk (k.next xs'), ka, b4, rfl, rfl, rfl, fo10, ents_keys hy10, key_trk ka10, nk_depth _, hsz, ?_⟩
        have tl11 : TL H10 (upd H10 fo (ND P w fo (putN ys (nk (k.next xs')) ka b4))) := TL.upd _ (NoL.nd fo10)
        refine ⟨_, _, _, _, _, rfl, ?_, (tl9.trans (TL.of s10)).trans tl11, fun b u hb e => ?_, upd_same, fun y hy => ?_, ?_, fun _ => putN_ne⟩
        · rw [upd_ne hfd]
          exact s10 _ _ (s69 _ _ (s6 _ _ hd5))
        · rw [upd_ne (ne_of_none e hfo)]
          exact s10 _ _ (s69 _ _ (s6 _ _ (k5 b u hb e)))
        · rcases putN_mem hy with hy' | rfl | ⟨a', b', hm', rfl⟩
          · exact (hy10 y hy').keep tl11
          · exact ⟨k.next xs', rfl, ka10.keep tl11.1, vn.keep tl11⟩
          · obtain ⟨k', q1, q2, _⟩ := hy10 _ hm'
            have e := nk_inj q1
            rw [← e] at q2
            exact ⟨k.next xs', rfl, q2.keep tl11.1, vn.keep tl11⟩
        · have := putN_length ys (nk (k.next xs')) ka b4
          omega
      · rintro σ H5 ⟨_, _, _, _, ys, rfl, hd5, tl5, k5, fo5, hy5, l5, ne5⟩
        have : 0 < ls.length := by
          rw [lslen]
          exact List.length_pos_iff.mpr opne
        exact ⟨_, _, _, _, _, _, _, _, ys, rfl, hd5, k5, fo5, hy5, by omega, fun _ => ne5 this⟩
    · rintro σ H2 ⟨_, _, _, _, _, _, _, _, ys, rfl, hd2, k2, fo2, hy2, l2, ne2⟩
      refine ⟨hd2, _, rfl, ?_⟩
      have sE : Same H (upd H2 d (ND P w d xs)) := fun b u e => by
        by_cases hb : b = d
        · rw [hb, hd] at e
          rw [hb, upd_same]
          exact e
        · rw [upd_ne hb]
          exact k2 b u hb e
      have tl3 : TL H2 (upd H2 d (ND P w d xs)) := TL.upd _ (NoL.frz hd2)
      refine q fo _ sE ⟨ys, (upd_ne hfd.symm).trans fo2, fun y hy => (hy2 y hy).keep tl3, ne2 (List.length_pos_iff.mpr hne), by omega⟩
end
end Far
end

section
set_option linter.all false
set_option maxRecDepth 100000
set_option maxHeartbeats 4000000
namespace Far
open PySem PySem.Spec PyProof.Rows L2 FarN FarR
def rListOf (K : PySem.W.Frag) : List V → Hp → VK → Prop := fun xs H Q => ∃ p ys, xs = [.ref p] ∧ (SqL K H p ys ∨ SqT K H p ys) ∧ ∀ l, H l = none → Q (.ref l) (upd H l (.lst ys))
theorem cr_listOf {X : Cx} : CallR X (.type "list") (rListOf X.K) := call_list_of
/-! ### plans in the heap -/
def ChAt (f : Bool) (H : Hp) (c : Addr) (ch : Ch) : Prop := CAt H c f ch
def PlansAt (H : Hp) (p : Addr) (Pl : Bool → List Ch) : Prop := ∃ (g : Bool → Addr), H p = some (.lst [.ref (g true), .ref (g false)]) ∧ ∀ f, ∃ xs, H (g f) = some (.lst xs) ∧ Row (ChAt f) H xs (Pl f)
theorem PlansAt.lens {H : Hp} {p : Addr} {Pl : Bool → List Ch} (h : PlansAt H p Pl) : LensAt H p (lens Pl) := by
  obtain ⟨g, h1, h2⟩ := h
  refine ⟨g, h1, fun f => ?_⟩
  obtain ⟨xs, h3, h4⟩ := h2 f
  exact ⟨xs, h3, h4.len⟩
theorem PlansAt.keep {H H' : Hp} {p : Addr} {Pl : Bool → List Ch} (t : TL H H') (h : PlansAt H p Pl) : PlansAt H' p Pl := by
  obtain ⟨g, h1, h2⟩ := h
  refine ⟨g, t.2 _ _ h1, fun f => ?_⟩
  obtain ⟨xs, h3, h4⟩ := h2 f
  exact ⟨xs, t.2 _ _ h3, h4.mono fun a d e => CAt.keep t.1 e⟩
theorem way_at {n : Bool → Nat} {k : Key} {st : List Stp} {j : Nat} {x : Stp} (hw : Way n k st) (e : st[j]? = some x) : (k.after (st.take j)).may n x = true := by
  induction st generalizing k j with
  | nil => simp at e
  | cons y r ih =>
    cases j with
    | zero =>
      have : y = x := by simpa using e
      rw [← this]
      exact hw.1
    | succ j => exact ih hw.2 (by simpa using e)
theorem take_snoc {α : Type} {l : List α} {j : Nat} {x : α} (e : l[j]? = some x) : l.take (j + 1) = l.take j ++ [x] := by
  rw [List.take_add_one, e]
  rfl
theorem RunOk.yin {line : List Nat} {P : Bool → List Ch} {S : RunM} (h : RunOk line P S) (hl : line.length ≤ 100) (hP : ∀ f, (P f).length ≤ 100) : YIn S.Y := fun f => by
  obtain ⟨cs, p, dn⟩ := h.done f
  have h1 := dn.len
  have h2 := nputs_le cs
  have h3 := p.length_eq
  rw [List.length_append, List.length_take, List.length_take] at h3
  have h4 := hP f
  have h5 := hP (!f)
  have h6 := h.sync.waiting f
  have h7 := h.mle f
  have h8 := (h.sync.road f).1
  have h9 := h.mle (!f)
  exact ⟨by omega, by omega, by omega⟩
section
variable {P : Program} {w : World} {K : PySem.W.Frag} {mg : Str → Option Value} {base : Heap} {CS CY PA : Addr}
def spLineB : Sp := fun vs H Q _ => ∃ (l : List Nat) (p sl : Addr) (Pl : Bool → List Ch) (ys : List V) (st : List Stp), vs = [.str (ln l), .ref p, .ref sl] ∧ l.length ≤ 100 ∧ PlansAt H p Pl ∧ (∀ f, (Pl f).length ≤ 3) ∧ H sl = some (.lst ys) ∧ Row StpAt H ys st ∧ Way (lens Pl) key0 st ∧
  ∀ H', Same H H' → Q (.str (ln (endLine l Pl st))) H'
theorem scLineB : FnScope ["line", "plans", "steps", "yard", "left", "seat", "making", "plan"] ["line", "plans", "steps"] (defScope sLineB) := ⟨rfl, rfl, rfl, by decide +kernel, rfl, by decide +kernel, by decide +kernel⟩
theorem ok_line {f : Addr} {fd : FuncData} (F : Fun K "line_behind" "line_behind" sLineB f fd) (T : Txt K w mg CS CY PA) (GY : MkG P w K mg base CY 3 ["self", "line"] (spYardInit CY CS)) (GC : MtG P w K mg base CY 7 "choose" ["self", "choice"] (spChoose CY CS))
    (GT : MtG P w K mg base CY 6 "come_to" ["self", "seat"] (spComeTo CY CS)) (GS : MtG P w K mg base CY 3 "shown_at" ["self", "seat"] (spShownAt CY CS)) :
    FnOk P w K mg base CX0 8 f fd ["line", "plans", "steps"] spLineB := by
  refine F.ok scLineB (fun vs H Q E h => ?_) (fun cdv A outer s H vs Q E hr h => ?_)
  · obtain ⟨l, p, sl, Pl, ys, st, rfl, _⟩ := h
    rfl
  · obtain ⟨l, p, sl, Pl, ys, st, rfl, hl, ⟨g, hp, hg⟩, hn3, hsl, hrow, hway, q⟩ := h
    have nd := scLineB.nd
    refine ⟨_, pss_cons (ps_set (i := 3) nd rfl (Or.inl rfl) (pmake GY hr (by decide) rfl T.mgY (pa_cons (pv 0) pa_nil)))
      (pss_cons (ps_setLc (i := 4) (own := [("plan", 7)]) (g := gName 7) (tt := tYes) rfl nd rfl rfl (sw_true rfl rfl rfl (by decide +kernel)) (pi_list (pv 1)) (blkOk_by (N := ["line", "plans", "steps", "yard", "left", "seat", "making", "plan"]) (sc := defScope sLineB) (by decide +kernel)) (fun _ _ _ _ _ => pg_name (i := 7) nd rfl (Or.inl rfl)) (fun _ _ _ _ _ => pts_nil)
        (fun _ _ _ _ _ => pe_callTy (T := "list") (r := rListOf K) cr_listOf (by rfl) T.list (by decide +kernel) (pa_cons (pv 7) pa_nil)))
      (pss_cons (ps_for PassesOwn.never rfl (pi_list (pv 2)) (pg_tup (by rfl) (pgs_cons (pg_name (i := 5) nd rfl (Or.inl rfl)) (pgs_cons (pg_name (i := 6) nd rfl (Or.inl rfl)) pgs_nil)))
        (pss_one (ps_if (pt_val (pv 6))
          (pss_one (ps_expr (pmeth GC T.clY hr (by decide) (pv 3) (pa_cons (pe_bm PySem.F.plainAttrs_list PySem.F.slot_list_pop PySem.F.type_list_pop mt_popAt (pe_ix ix_list (pv 4) (pv 5) (fun _ _ => rfl)) (pa_cons pe_int pa_nil)) pa_nil))))
          (pss_one (ps_expr (pmeth GT T.clY hr (by decide) (pv 3) (pa_cons (pv 5) pa_nil)))))))
      (pss_one (ps_ret (pmeth GS T.clY hr (by decide) (pv 3) (pa_cons pe_int pa_nil)))))), ?_⟩
    refine ⟨_, rfl, fun y dx hy0 hdx hne => ?_⟩
    have hxy : ∀ b u, H b = some u → b ≠ y ∧ b ≠ dx := fun b u e => ⟨ne_of_none e hy0, ne_of_none e hdx⟩
    refine ⟨y, dx, l, rfl, upd_same, by omega, fun F0 H2 sl' rl hF0 hs1 hs2 hY => ⟨rfl, ?_⟩⟩
    have sF0 : Same H F0 := fun b u e => hF0 b u (hxy b u e).1 (by rw [upd_ne (hxy b u e).1, upd_ne (hxy b u e).2]; exact e)
    have hsn : F0 sl' ≠ none ∧ F0 rl ≠ none := by
      obtain ⟨_, _, _, _, B⟩ := hY
      rw [B.sl, B.rl]
      exact ⟨fun z => (by cases z), fun z => (by cases z)⟩
    have sH2 := sF0.trans hY.frame
    refine ⟨_, rfl, p, rfl, ⟨_, SqL.of (sH2 _ _ hp)⟩, fun D hD => ?_⟩
    have hF0D : F0 D = none := none_of hY.frame hD
    have hH0D : H D = none := none_of sF0 hF0D
    have Dsl : D ≠ sl' := fun z => hsn.1 (by rw [← z]; exact hF0D)
    have Drl : D ≠ rl := fun z => hsn.2 (by rw [← z]; exact hF0D)
    have sD := Same.new (.lst []) hD
    refine lc_list (xs := [.ref (g true), .ref (g false)]) (fun i Hc => ∃ (FF : Hp) (lg : Bool → Addr) (lx : Bool → List V), YardAt CY CS FF Hc y sl' rl (yard0 l) ∧ Same H FF ∧ FF D = some (.lst ([V.ref (lg true), V.ref (lg false)].take i)) ∧
        (1 ≤ i → FF (lg true) = some (.lst (lx true)) ∧ Row (ChAt true) H (lx true) (Pl true) ∧ H (lg true) = none ∧ lg true ≠ sl' ∧ lg true ≠ rl ∧ lg true ≠ D) ∧
        (2 ≤ i → FF (lg false) = some (.lst (lx false)) ∧ Row (ChAt false) H (lx false) (Pl false) ∧ H (lg false) = none ∧ lg false ≠ sl' ∧ lg false ≠ rl ∧ lg false ≠ D ∧ lg true ≠ lg false))
      ⟨upd F0 D (.lst []), fun _ => D, fun _ => [], hY.more sD hD upd_same, fun b u e => (by rw [upd_ne (ne_of_none e hH0D)]; exact sF0 _ _ e), upd_same, fun z => absurd z (by decide), fun z => absurd z (by decide)⟩ ?_ ?_ ?_
    · rintro i Hc _ ⟨FF, _, _, hYc, sf, _⟩
      exact SqL.of (hYc.frame _ _ (sf _ _ hp))
    · rintro i x Hc hx ⟨FF, lg, lx, hYc, sf, fD, c1, c2⟩
      have hi2 : i < 2 := (List.getElem?_eq_some_iff.mp hx).1
      obtain ⟨f, _, hf⟩ := sn_of hi2
      have ex : x = .ref (g f) := by
        rcases hf with ⟨rfl, rfl⟩ | ⟨rfl, rfl⟩ <;> exact (Option.some.inj hx).symm
      subst ex
      obtain ⟨xs, x1, x2⟩ := hg f
      refine ⟨rfl, ?_⟩
      refine ⟨_, rfl, g f, xs, rfl, .inl (SqL.of (hYc.frame _ _ (sf _ _ x1))), fun b hb => ?_⟩
      have sb := Same.new (.lst xs) hb
      have hY1 := hYc.more sb hb upd_same
      have fb : FF b = none := none_of hYc.frame hb
      have hb0 : H b = none := none_of sf fb
      have bD : b ≠ D := fun z => by rw [z, fD] at fb; cases fb
      have bsl : b ≠ sl' := by
        obtain ⟨_, _, _, _, B⟩ := hYc
        exact (ne_of_none B.sl fb).symm
      have brl : b ≠ rl := by
        obtain ⟨_, _, _, _, B⟩ := hYc
        exact (ne_of_none B.rl fb).symm
      have fD1 : upd FF b (.lst xs) D = some (.lst ([V.ref (lg true), V.ref (lg false)].take i)) := (upd_ne bD.symm).trans fD
      have hD1 := hY1.frame _ _ fD1
      refine ⟨_, hD1, ?_, upd (upd FF b (.lst xs)) D (.lst ([V.ref (lg true), V.ref (lg false)].take i ++ [.ref b])), updB lg f b, updB lx f xs, hY1.put fD1 Dsl Drl, fun a u e => ?_, ?_, ?_, ?_⟩
      · rw [List.length_take]
        exact small' (by show min i 2 + 1 ≤ 1000; omega)
      · rw [upd_ne (ne_of_none e hH0D), upd_ne (ne_of_none e hb0)]
        exact sf _ _ e
      · rw [upd_same]
        rcases hf with ⟨rfl, rfl⟩ | ⟨rfl, rfl⟩ <;> rfl
      · intro h1
        rcases hf with ⟨rfl, rfl⟩ | ⟨rfl, rfl⟩
        · exact ⟨(upd_ne bD).trans upd_same, x2, hb0, bsl, brl, bD⟩
        · obtain ⟨d1, d2, d3, d4, d5, d6⟩ := c1 (by decide)
          refine ⟨(upd_ne d6).trans ((upd_ne (ne_of_none d1 fb)).trans d1), d2, d3, d4, d5, d6⟩
      · intro h2
        rcases hf with ⟨rfl, rfl⟩ | ⟨rfl, rfl⟩
        · exact absurd h2 (by decide)
        · obtain ⟨d1, d2, d3, d4, d5, d6⟩ := c1 (by decide)
          exact ⟨(upd_ne bD).trans upd_same, x2, hb0, bsl, brl, bD, ne_of_none d1 fb⟩
    · rintro Hc ⟨FF, lg, lx, hYc, sf, fD, c1, c2⟩
      obtain ⟨d1, d2, d3, d4, d5, d6⟩ := c1 (by show 1 ≤ 2; omega)
      obtain ⟨e1, e2, e3, e4, e5, e6, e7⟩ := c2 (by show 2 ≤ 2; omega)
      have fD' : FF D = some (.lst [.ref (lg true), .ref (lg false)]) := fD
      have lgn : ∀ f, H (lg f) = none ∧ lg f ≠ sl' ∧ lg f ≠ rl ∧ lg f ≠ D := fun f => by cases f; exact ⟨e3, e4, e5, e6⟩; exact ⟨d3, d4, d5, d6⟩
      have lgne : ∀ f, lg f ≠ lg (!f) := fun f => by cases f; exact e7.symm; exact e7
      have lgx : ∀ f, FF (lg f) = some (.lst (lx f)) ∧ Row (ChAt f) H (lx f) (Pl f) := fun f => by cases f; exact ⟨e1, e2⟩; exact ⟨d1, d2⟩
      refine ⟨_, rfl, sl, rfl, ⟨ys, SqL.of (hYc.frame _ _ (sf _ _ hsl))⟩, for_list (xs := ys)
        (fun j σ H3 => ∃ (FF : Hp) (lx : Bool → List V) (x5 x6 x7 : Option V), σ = [some (.str (ln l)), some (.ref p), some (.ref sl), some (.ref y), some (.ref D), x5, x6, x7] ∧ YardAt CY CS FF H3 y sl' rl ((run0 l Pl).steps (st.take j)).Y ∧ Same H FF ∧ FF D = some (.lst [.ref (lg true), .ref (lg false)]) ∧
          (∀ f, FF (lg f) = some (.lst (lx f)) ∧ Row (ChAt f) H (lx f) (((run0 l Pl).steps (st.take j)).left f)) ∧ RunOk l Pl ((run0 l Pl).steps (st.take j)) ∧ KeyOf ((run0 l Pl).steps (st.take j)) (key0.after (st.take j)))
        ⟨FF, lx, none, none, none, rfl, hYc, sf, fD', lgx, runOk0 l Pl, keyOf0 l Pl⟩ ?_ ?_ ?_⟩
      · rintro j σ H3 _ ⟨F3, _, _, _, _, _, hY3, sf3, _⟩
        exact SqL.of (hY3.frame _ _ (sf3 _ _ hsl))
      · rintro j v σ H3 hv ⟨F3, lx3, _, _, _, rfl, hY3, sf3, fD3, lgx3, hok3, hkey3⟩
        obtain ⟨s, ⟨f, b⟩, rfl, hst, hs⟩ := hrow.at hv
        have s3 := sf3.trans hY3.frame
        have hmay := way_at hway hst
        rw [take_snoc hst]
        rw [steps_snoc, Key.after_snoc]
        generalize (run0 l Pl).steps (st.take j) = S at hY3 lgx3 hok3 hkey3 ⊢
        generalize key0.after (st.take j) = k at hkey3 hmay ⊢
        obtain ⟨g1, g2, g3, g4⟩ := step_ok hok3 hkey3 hmay
        have hyin := hok3.yin hl (fun f => Nat.le_trans (hn3 f) (by decide))
        refine ⟨_, _, rfl, SqT.of (s3 _ _ hs), rfl, _, _, rfl, _, _, rfl, rfl, ?_⟩
        refine ⟨_, rfl, b, rfl, ?_⟩
        obtain ⟨ydx, yra, ysa, ywa, B⟩ := id hY3
        cases b with
        | true =>
          obtain ⟨ch, rest, el⟩ := g1 rfl
          have est : S.step (f, true) = ⟨S.Y.make f (ch.deed (S.Y.s f).text), updB S.left f rest⟩ := by simp only [RunM.step, el]
          rw [est] at g3 g4 ⊢
          obtain ⟨l1, l2⟩ := lgx3 f
          simp only at el
          rw [el] at l2
          obtain ⟨c, zs, ez, hc, hzs⟩ := l2.cons
          rw [ez] at l1
          have l1' := hY3.frame _ _ l1
          refine iteT ?_
          refine ⟨_, rfl, y, ydx, _, rfl, B.same _ _ B.y, rfl, _, rfl, _, rfl, _, _, _, _, rfl, rfl, SqL.of (hY3.frame _ _ fD3), at_sn lg f, .inl ⟨rfl, _, SqL.of l1'⟩, lg f, _, 0, 0, .ref c, rfl, rfl, l1', by decide, by decide, pop0 _ _, rfl, ?_⟩
          have hY4 := hY3.put (ys := zs) l1 (lgn f).2.1 (lgn f).2.2.1
          have sf4 : Same H (upd F3 (lg f) (.lst zs)) := fun a u e => by
            rw [upd_ne (ne_of_none e (lgn f).1)]
            exact sf3 _ _ e
          have hc4 : CAt (upd H3 (lg f) (.lst zs)) c f ch := CAt.keep (TK.of (sf4.trans hY4.frame)) hc
          refine ⟨upd F3 (lg f) (.lst zs), y, sl', rl, c, f, S.Y, ch, rfl, hY4, hc4, hyin, fun r H5 t5 hY5 => ?_⟩
          refine ⟨upd F3 (lg f) (.lst zs), updB lx3 f zs, _, _, _, rfl, hY5, sf4, (upd_ne (lgn f).2.2.2.symm).trans fD3, fun f' => ?_, g3, g4⟩
          rcases bool_or f f' with e | e
          · rw [e]
            simp only [updB_same]
            exact ⟨upd_same, hzs⟩
          · rw [e]
            simp only [updB_not]
            exact ⟨(upd_ne (lgne f).symm).trans (lgx3 (!f)).1, (lgx3 (!f)).2⟩
        | false =>
          obtain ⟨x, rest, er⟩ := g2 rfl
          have est : S.step (f, false) = ⟨S.Y.takeOf f x rest, S.left⟩ := by simp only [RunM.step, YardM.take, er]
          rw [est] at g3 g4 ⊢
          refine iteF ?_
          refine ⟨_, rfl, y, ydx, _, rfl, B.same _ _ B.y, rfl, _, rfl, F3, y, sl', rl, f, S.Y, x, rest, rfl, hY3, hok3.sync, er, hyin, fun r H5 t5 hY5 => ?_⟩
          exact ⟨F3, lx3, _, _, _, rfl, hY5, sf3, fD3, lgx3, g3, g4⟩
      · rintro σ H3 ⟨F3, lx3, _, _, _, rfl, hY3, sf3, fD3, lgx3, hok3, hkey3⟩
        rw [hrow.len, List.take_length] at hY3
        obtain ⟨ydx, yra, ysa, ywa, B⟩ := id hY3
        refine ⟨_, rfl, y, ydx, _, rfl, B.same _ _ B.y, rfl, ?_⟩
        exact ⟨F3, y, sl', rl, true, _, rfl, hY3, fun H4 s4 => q H4 ((sf3.trans hY3.frame).trans s4)⟩
end
end Far
end

section
set_option linter.all false
set_option maxRecDepth 100000
set_option maxHeartbeats 4000000
namespace Far
open PySem PySem.Spec PyProof.Rows L2 FarN FarR
/-! ### the dict of the ends -/
theorem val_ent (ks : List (Str × Int)) (s : Str) : valV (ks.map entI) (.inr s) = none ∨ ∃ n : Int, valV (ks.map entI) (.inr s) = some (.int n) := by
  cases e : valV (ks.map entI) (.inr s) with
  | none => exact .inl rfl
  | some v =>
    refine .inr ?_
    unfold valV at e
    cases e2 : (ks.map entI).find? (fun kv => decide (kv.1 = .inr s)) with
    | none => rw [e2] at e; cases e
    | some p =>
      rw [e2] at e
      obtain ⟨x, hx, rfl⟩ := List.mem_map.mp (List.mem_of_find?_eq_some e2)
      exact ⟨x.2, e.symm⟩
theorem put_ent (ks : List (Str × Int)) (s : Str) (n : Int) : ∃ ks' : List (Str × Int), putK (ks.map entI) (.inr s) (.int n) = ks'.map entI ∧ ks' ≠ [] ∧ ks'.length ≤ ks.length + 1 ∧ (∀ e ∈ ks', e.1 = s ∨ ∃ e0 ∈ ks, e0.1 = e.1) ∧ ((ks.map (·.1)).Nodup → (ks'.map (·.1)).Nodup) := by
  unfold putK
  by_cases h : ((ks.map entI).any fun kv => decide (kv.1 = .inr s)) = true
  · rw [if_pos h]
    refine ⟨ks.map fun e => if e.1 = s then (e.1, n) else e, ?_, ?_, by rw [List.length_map]; omega, fun e he => ?_, fun hn => ?_⟩
    · rw [List.map_map, List.map_map]
      refine List.map_congr_left fun e _ => ?_
      by_cases c : e.1 = s
      · simp [entI, c]
      · simp [entI, c]
    · intro z
      have : ks = [] := by simpa using z
      rw [this] at h
      simp at h
    · obtain ⟨e0, h0, rfl⟩ := List.mem_map.mp he
      refine .inr ⟨e0, h0, ?_⟩
      split <;> rfl
    · rw [List.map_map]
      have : ((fun x : Str × Int => x.1) ∘ fun e : Str × Int => if e.1 = s then (e.1, n) else e) = fun x => x.1 := by
        funext e
        simp only [Function.comp]
        split <;> rfl
      rw [this]
      exact hn
  · rw [if_neg h]
    refine ⟨ks ++ [(s, n)], by simp [entI], by simp, by simp, fun e he => ?_, fun hn => ?_⟩
    · rcases List.mem_append.mp he with he | he
      · exact .inr ⟨e, he, rfl⟩
      · rw [List.mem_singleton.mp he]; exact .inl rfl
    · rw [List.map_append]
      refine List.nodup_append.mpr ⟨hn, by simp, fun a ha b hb => ?_⟩
      have eb : b = s := by simpa using hb
      rw [eb]
      intro z
      refine h ?_
      obtain ⟨e, he, ea⟩ := List.mem_map.mp ha
      rw [List.any_eq_true]
      exact ⟨entI e, List.mem_map.mpr ⟨e, he, rfl⟩, by simp [entI, ea, z]⟩
section
variable {P : Program} {w : World} {K : PySem.W.Frag} {mg : Str → Option Value} {base : Heap} {CS CY PA : Addr}
theorem hu8 {A : Around} {k : Nat} (hr : Room k A) : A.units + 8 < cLine := by have := hr.units; omega
/-- the answer of runs_of: the lines that can be -/
def EndsAt (H : Hp) (a : Addr) (l : List Nat) (Pl : Bool → List Ch) : Prop := ∃ zs : List (Addr × Str × Int), H a = some (.lst (zs.map fun z => V.ref z.1)) ∧ (∀ z ∈ zs, H z.1 = some (.tup [.str z.2.1, .int z.2.2])) ∧ zs ≠ [] ∧ (zs.map (·.2.1)).Nodup ∧ ∀ z ∈ zs, ∃ T, z.2.1 = ln T ∧ EndOk l Pl T
def spRuns : Sp := fun vs H Q _ => ∃ (l : List Nat) (p : Addr) (Pl : Bool → List Ch), vs = [.str (ln l), .ref p] ∧ l.length ≤ 100 ∧ PlansAt H p Pl ∧ (∀ f, (Pl f).length ≤ 3) ∧
  ∀ (r a : Addr) (tot : Int) (H' : Hp), Same H H' → H' r = some (.tup [.int tot, .ref a]) → EndsAt H' a l Pl → Q (.ref r) H'
theorem scRuns : FnScope ["line", "plans", "layer", "turn", "ends", "steps", "many", "shown"] ["line", "plans"] (defScope sRuns) := ⟨rfl, rfl, rfl, by decide +kernel, rfl, by decide +kernel, by decide +kernel⟩
theorem ok_runs {f : Addr} {fd : FuncData} (F : Fun K "runs_of" "runs_of" sRuns f fd) (T : Txt K w mg CS CY PA) (GG : FnG P w K mg base 2 "grown" ["plans", "layer"] (spGrown P w)) (GL : FnG P w K mg base 8 "line_behind" ["line", "plans", "steps"] spLineB) :
    FnOk P w K mg base CX0 9 f fd ["line", "plans"] spRuns := by
  refine F.ok scRuns (fun vs H Q E h => ?_) (fun cdv A outer s H vs Q E hr h => ?_)
  · obtain ⟨l, p, Pl, rfl, _⟩ := h
    rfl
  · obtain ⟨l, p, Pl, rfl, hl, hp, hn3, q⟩ := h
    have nd := scRuns.nd
    refine ⟨_, pss_cons (ps_set (i := 2) nd rfl (Or.inl rfl) (pe_none1 (hu8 hr) (pe_tup (pa_cons (pe_tup (pa_cons pe_int (pa_cons pe_int pa_nil))) (pa_cons (pe_tup (pa_cons (pe_tup pa_nil) (pa_cons (pe_tup pa_nil) pa_nil))) pa_nil))) (pe_tup (pa_cons (pe_lst pa_nil) (pa_cons pe_int pa_nil)))))
      (pss_cons (ps_for PassesOwn.never rfl (pi_range1 rfl T.range (pa_cons (pe_op op_add (pe_op op_mul pe_int (pe_callB call_len_seq (by rfl) T.len PySem.boot_len (pa_cons (pe_ix ix_list (pv 1) pe_int (fun _ _ => rfl)) pa_nil))) (pe_op op_mul pe_int (pe_callB call_len_seq (by rfl) T.len PySem.boot_len (pa_cons (pe_ix ix_list (pv 1) pe_int (fun _ _ => rfl)) pa_nil)))) pa_nil)) (pg_name (i := 3) nd rfl (Or.inl rfl))
        (pss_one (ps_set (i := 2) nd rfl (Or.inl rfl) (pcall GG hr (by decide) rfl (pa_cons (pv 1) (pa_cons (pv 2) pa_nil))))))
      (pss_cons (ps_set (i := 4) nd rfl (Or.inl rfl) pe_dnewK)
      (pss_cons (ps_lock (ps_for PassesOwn.never rfl (pi_nvalues (pv 2)) (pg_tup (by rfl) (pgs_cons (pg_name (i := 5) nd rfl (Or.inl rfl)) (pgs_cons (pg_name (i := 6) nd rfl (Or.inl rfl)) pgs_nil)))
        (pss_cons (ps_set (i := 7) nd rfl (Or.inl rfl) (pcall GL hr (by decide) rfl (pa_cons (pv 0) (pa_cons (pv 1) (pa_cons (pv 5) pa_nil)))))
        (pss_one (ps_dput (hu_of hr) (pv 4) (pv 7) (pe_op op_add (pe_dget2 (hu_of hr) (pv 4) (pv 7) pe_int ⟨rfl, rfl, rfl, rfl⟩) (pv 6)) rfl)))))
      (pss_one (ps_ret (pe_tup (pa_cons (pe_callB (cr_sumVals rfl) (by rfl) T.sum (by decide +kernel) (pa_cons (pe_bm0 PySem.F.plainAttrs_dict PySem.F.slot_dict_values PySem.F.type_dict_values mt_valuesK (pv 4)) pa_nil))
        (pa_cons (pe_callB (cr_sortItems rfl (hu8 hr)) (by rfl) T.sorted (by decide +kernel) (pa_cons (pe_bm0 PySem.F.plainAttrs_dict PySem.F.slot_dict_items PySem.F.type_dict_items mt_itemsK (pv 4)) pa_nil)) pa_nil)))))))), ?_⟩
    -- the first layer
    refine fun d hd => ⟨(by show 2 ≤ sizeLine; decide), fun a1 h1 => ⟨(by show 0 ≤ sizeLine; decide), fun a2 h2 => ⟨(by show 0 ≤ sizeLine; decide), fun a3 h3 => ⟨(by show 2 ≤ sizeLine; decide), fun a4 h4 => ⟨(by show 2 ≤ sizeLine; decide), fun a5 h5 =>
      ⟨(by show 0 ≤ sizeLine; decide), fun a6 h6 => ⟨(by show 2 ≤ sizeLine; decide), fun a7 h7 => ?_⟩⟩⟩⟩⟩⟩⟩
    have s0 := Same.new (ND P w d []) hd
    have s1 := Same.new (.tup [.int 0, .int 0]) h1
    have s2 := Same.new (.tup []) h2
    have s3 := Same.new (.tup []) h3
    have s4 := Same.new (.tup [.ref a2, .ref a3]) h4
    have s5 := Same.new (.tup [.ref a1, .ref a4]) h5
    have s6 := Same.new (.lst []) h6
    have s7 := Same.new (.tup [.ref a6, .int 1]) h7
    have s17 := (((((s1.trans s2).trans s3).trans s4).trans s5).trans s6).trans s7
    have s27 := ((((s2.trans s3).trans s4).trans s5).trans s6).trans s7
    have s37 := (((s3.trans s4).trans s5).trans s6).trans s7
    have s47 := ((s4.trans s5).trans s6).trans s7
    have s57 := (s5.trans s6).trans s7
    have s67 := s6.trans s7
    have s07 := s0.trans s17
    have f0 : upd (upd (upd (upd (upd (upd (upd (upd H d (ND P w d [])) a1 (.tup [.int 0, .int 0])) a2 (.tup [])) a3 (.tup [])) a4 (.tup [.ref a2, .ref a3])) a5 (.tup [.ref a1, .ref a4])) a6 (.lst [])) a7 (.tup [.ref a6, .int 1]) d = some (ND P w d []) := s17 _ _ upd_same
    have f1 := s27 _ _ upd_same
    have f2 := s37 _ _ upd_same
    have f3 := s47 _ _ upd_same
    have f4 := s57 _ _ upd_same
    have f5 := s67 _ _ upd_same
    have f6 := s7 _ _ upd_same
    have f7 : upd (upd (upd (upd (upd (upd (upd (upd H d (ND P w d [])) a1 (.tup [.int 0, .int 0])) a2 (.tup [])) a3 (.tup [])) a4 (.tup [.ref a2, .ref a3])) a5 (.tup [.ref a1, .ref a4])) a6 (.lst [])) a7 (.tup [.ref a6, .int 1]) a7 = some (.tup [.ref a6, .int 1]) := upd_same
    let H8 : Hp := upd (upd (upd (upd (upd (upd (upd (upd H d (ND P w d [])) a1 (.tup [.int 0, .int 0])) a2 (.tup [])) a3 (.tup [])) a4 (.tup [.ref a2, .ref a3])) a5 (.tup [.ref a1, .ref a4])) a6 (.lst [])) a7 (.tup [.ref a6, .int 1])
    have kat : KeyAt H8 a5 key0 := ⟨a1, a4, f5, f1, updB (fun _ => a3) true a2, f4, fun f => by cases f; exact f3; exact f2⟩
    refine ⟨f0, nk key0, a5, a7, rfl, rfl, key_trk kat, nk_depth _, ?_⟩
    have tl9 : TL H8 (upd H8 d (ND P w d [(nk key0, a5, a7)])) := TL.upd _ (NoL.nd f0)
    have s9 : Same H (upd H8 d (ND P w d [(nk key0, a5, a7)])) := fun b u e => by rw [upd_ne (ne_of_none e hd)]; exact s07 _ _ e
    have hL0 : LayerAt P w (lens Pl) 0 (upd H8 d (ND P w d [(nk key0, a5, a7)])) d := by
      refine ⟨[(nk key0, a5, a7)], upd_same, fun x hx => ?_, by simp, Nat.le_refl 1⟩
      rw [List.mem_singleton.mp hx]
      exact ⟨key0, rfl, kat.keep tl9.1, [], a6, [], 1, tl9.1 _ _ f7, tl9.2 _ _ f6, trivial, trivial, rfl, rfl⟩
    obtain ⟨g, hp1, hp2⟩ := id hp
    obtain ⟨zs0, z01, z02⟩ := hp2 true
    obtain ⟨zs1, z11, z12⟩ := hp2 false
    have n0 := hn3 true
    have n1 := hn3 false
    refine ⟨_, rfl, _, _, _, _, rfl, rfl, SqL.of (s9 _ _ hp1), at_of (j := 0) rfl rfl, _, _, rfl, .inl (SqL.of (s9 _ _ z01)), _, _, rfl, rfl, .inl (by decide), _, rfl, _, _, _, _, rfl, rfl, SqL.of (s9 _ _ hp1), at_of (j := 1) rfl rfl, _, _, rfl, .inl (SqL.of (s9 _ _ z11)), _, _, rfl, rfl, .inl (by decide), _, _, rfl, rfl, _, rfl, by rw [z02.len, z12.len]; omega, by rw [z02.len, z12.len]; omega, ?_⟩
    rw [z02.len, z12.len, show (2 * (((Pl true).length : Nat) : Int) + 2 * (((Pl false).length : Nat) : Int)).toNat = 2 * (Pl true).length + 2 * (Pl false).length by omega]
    refine for_range (n := 2 * (Pl true).length + 2 * (Pl false).length)
      (fun i σ H2 => ∃ (dL : Addr) (x3 : Option V), σ = [some (.str (ln l)), some (.ref p), some (.ref dL), x3, none, none, none, none] ∧ Same H H2 ∧ LayerAt P w (lens Pl) i H2 dL)
      ⟨d, none, rfl, s9, hL0⟩ ?_ ?_
    · rintro i σ H2 hi ⟨dL, _, rfl, s2', hL⟩
      refine ⟨_, rfl, _, rfl, p, dL, lens Pl, i, rfl, (hp.keep (TL.of s2')).lens, hL, hi, by omega, hn3, fun d' H3 s3' hL3 => ?_⟩
      exact ⟨d', _, rfl, s2'.trans s3', hL3⟩
    · rintro σ H2 ⟨dL, _, rfl, sA, xs, hdL, hx, hne, hlen⟩
      refine fun e he => ?_
      have sE := Same.new (.dK []) he
      have hde : dL ≠ e := ne_of_none hdL he
      have e16 : (4 : Nat) ^ (2 * (Pl true).length + 2 * (Pl false).length) ≤ 16777216 := by
        have : (4 : Nat) ^ (2 * (Pl true).length + 2 * (Pl false).length) ≤ 4 ^ 12 := Nat.pow_le_pow_right (by decide) (by omega)
        exact Nat.le_trans this (by decide)
      refine ⟨dL, ND P w dL xs, sE _ _ hdL, ND.mut, fun od => ?_⟩
      have tlu : ∀ {H3 : Hp}, (∀ b u, b ≠ dL → H2 b = some u → H3 b = some u) → TL H2 H3 := fun {H3} k => ⟨fun a zs e => k _ _ (fun z => by rw [z, hdL] at e; injection e with e; cases e) e, fun a zs e => k _ _ (fun z => by rw [z, hdL] at e; injection e with e; cases e) e⟩
      have kF : ∀ b u, b ≠ dL → H2 b = some u → upd (upd H2 e (.dK [])) dL (.frz od (ND P w dL xs)) b = some u := fun b u h q => by
        rw [upd_ne h]
        exact sE _ _ q
      refine ⟨_, rfl, dL, od, xs, rfl, upd_same, for_nvalues (xs := xs)
        (fun i σ H3 => ∃ (x3 x5 x6 x7 : Option V) (ks : List (Str × Int)), σ = [some (.str (ln l)), some (.ref p), some (.ref dL), x3, some (.ref e), x5, x6, x7] ∧ H3 dL = some (.frz od (ND P w dL xs)) ∧ (∀ b u, b ≠ dL → H2 b = some u → H3 b = some u) ∧
          H3 e = some (.dK (ks.map entI)) ∧ ks.length ≤ i ∧ (0 < i → ks ≠ []) ∧ (ks.map (·.1)).Nodup ∧ ∀ z ∈ ks, ∃ T, z.1 = ln T ∧ EndOk l Pl T)
        ⟨_, _, _, _, [], rfl, upd_same, kF, (upd_ne hde.symm).trans upd_same, Nat.le_refl _, fun z => absurd z (by decide), List.nodup_nil, (fun z hz => nomatch hz)⟩ ?_ ?_ ?_⟩
      · rintro i σ H3 _ ⟨_, _, _, _, _, _, h3', _⟩
        exact h3'
      · rintro i x σ H3 hxi ⟨_, _, _, _, ks, rfl, hd3, k3, e3, l3, _, hn, hks⟩
        have hil : i < xs.length := (List.getElem?_eq_some_iff.mp hxi).1
        obtain ⟨k, ek, hk, st, sl, zs, many, v1, v2, v3, v4, v5, v6⟩ := (hx x (List.mem_of_getElem? hxi)).keep (tlu k3)
        refine ⟨x.2.2, _, rfl, SqT.of v1, rfl, _, _, rfl, _, _, rfl, rfl, ?_⟩
        refine ⟨_, rfl, _, rfl, _, rfl, l, p, sl, Pl, zs, st, rfl, hl, (hp.keep (TL.of sA)).keep (tlu k3), hn3, v2, v3, v4, fun H4 s4 => ?_⟩
        have e4 := s4 _ _ e3
        refine ⟨_, rfl, e, rfl, .inl ⟨_, .inl e4⟩, _, rfl, _, DGet.k (k := .inr (ln (endLine l Pl st))) e4, ?_⟩
        have hgo : ∃ m : Int, (valV (ks.map entI) (.inr (ln (endLine l Pl st)))).getD (.int 0) = .int m := by
          rcases val_ent ks (ln (endLine l Pl st)) with h | ⟨m, h⟩
          · rw [h]; exact ⟨0, rfl⟩
          · rw [h]; exact ⟨m, rfl⟩
        obtain ⟨m, em⟩ := hgo
        have hsz : ks.length < sizeLine := by
          have e : sizeLine = 16777216 := sizeLine_eq
          rw [e]
          omega
        obtain ⟨ks', p1, p2, p3, p4, p5⟩ := put_ent ks (ln (endLine l Pl st)) (m + many)
        refine ⟨_, rfl, _, _, em, rfl, _, rfl, _, rfl, e, _, rfl, DPut.k (k := .inr (ln (endLine l Pl st))) e4 (by rw [List.length_map]; exact hsz), ?_⟩
        show ∃ (x3 x5 x6 x7 : Option V) (ks : List (Str × Int)), _
        have hend : EndOk l Pl (endLine l Pl st) := end_ok v4 v6
        rw [p1]
        refine ⟨_, _, _, _, ks', rfl, (upd_ne hde).trans (s4 _ _ hd3), fun b u hb q => ?_, upd_same, by omega, fun _ => p2, p5 hn, fun z hz => ?_⟩
        · rw [upd_ne (ne_of_none q he)]
          exact s4 _ _ (k3 b u hb q)
        · rcases p4 z hz with q | ⟨z0, q1, q2⟩
          · exact ⟨_, q, hend⟩
          · rw [← q2]; exact hks z0 q1
      · rintro σ H3 ⟨_, _, _, _, ks, rfl, hd3, k3, e3, l3, ne3, hn, hks⟩
        refine ⟨hd3, ?_⟩
        have sB : Same H2 (upd H3 dL (ND P w dL xs)) := fun b u q => by
          by_cases hb : b = dL
          · rw [hb, hdL] at q
            rw [hb, upd_same]
            exact q
          · rw [upd_ne hb]
            exact k3 b u hb q
        have eB : upd H3 dL (ND P w dL xs) e = some (.dK (ks.map entI)) := (upd_ne hde.symm).trans e3
        generalize upd H3 dL (ND P w dL xs) = H5 at sB eB ⊢
        refine ⟨_, rfl, .inr (.inr (.inl ⟨rfl, .inl ⟨_, eB⟩⟩)), e, _, rfl, rfl, eB, fun pv1 hv1 => ?_⟩
        have sV := Same.new (valuesO pv1 e) hv1
        refine ⟨pv1, e, ks, rfl, upd_same, sV _ _ eB, fun tot => ?_⟩
        refine ⟨_, rfl, .inr (.inr (.inl ⟨rfl, .inl ⟨_, sV _ _ eB⟩⟩)), e, _, rfl, rfl, sV _ _ eB, fun pv2 hv2 => ?_⟩
        have sW := Same.new (DX.itemsO pv2 e) hv2
        refine ⟨pv2, e, ks, rfl, upd_same, sW _ _ (sV _ _ eB), fun H6 le zs s6 perm len6 h6 t6 => ⟨(by show 2 ≤ sizeLine; decide), fun r hr' => ?_⟩⟩
        have s7' := Same.new (.tup [.int tot, .ref le]) hr'
        refine q r le tot _ (((((sA.trans sB).trans sV).trans sW).trans s6).trans s7') upd_same ⟨zs, s7' _ _ h6, fun z hz => s7' _ _ (t6 z hz), ?_, ?_, fun z hz => ?_⟩
        · intro z
          rw [z] at perm
          have : ks = [] := by simpa using perm.symm.eq_nil
          exact ne3 (List.length_pos_iff.mpr hne) this
        · have e1 : zs.map (·.2.1) = (zs.map (·.2)).map (·.1) := by rw [List.map_map]; rfl
          rw [e1]
          exact (perm.map (·.1)).nodup_iff.mpr hn
        · exact hks z.2 (perm.mem_iff.mp (List.mem_map.mpr ⟨z, hz, rfl⟩))
end
end Far
end

section
set_option linter.all false
set_option maxRecDepth 100000
set_option maxHeartbeats 4000000
namespace Far
open PySem PySem.Spec PyProof.Rows L2 FarN FarR
/-! ### the pot -/
def PotAt (H : Hp) (p : Addr) : Prop := ∃ a c k : Int, H p = some (.lst [.int a, .int c, .int k]) ∧ a.natAbs < 2 ^ 700
section
variable {P : Program} {w : World} {K : PySem.W.Frag} {mg : Str → Option Value} {base : Heap} {CS CY PA : Addr}
/-! ### _law_mixed -/
def spMixed : Sp := fun vs H Q _ => ∃ c k : Int, vs = [.int c, .int k] ∧ ∀ m : Int, Q (.int m) H
theorem scMixed : FnScope ["cell", "k", "number"] ["cell", "k"] (defScope sMixed) := ⟨rfl, rfl, rfl, by decide +kernel, rfl, by decide +kernel, by decide +kernel⟩
theorem ok_mixed {f : Addr} {fd : FuncData} (F : Fun K "_law_mixed" "_law_mixed" sMixed f fd) : FnOk P w K mg base CX0 1 f fd ["cell", "k"] spMixed := by
  refine F.ok scMixed (fun vs H Q E h => ?_) (fun cdv A outer s H vs Q E hr h => ?_)
  · obtain ⟨c, k, rfl, _⟩ := h
    rfl
  · obtain ⟨c, k, rfl, q⟩ := h
    have nd := scMixed.nd
    refine ⟨_, pss_cons (ps_set (i := 2) nd rfl (Or.inl rfl) (pe_op op_mod (pe_op op_mul (pe_op op_add (pe_op op_add (pe_op op_mod (pv 0) pe_int) (pe_op op_mul pe_int (pv 1))) pe_int) pe_int) pe_int))
      (pss_cons (ps_set (i := 2) nd rfl (Or.inl rfl) (pe_op op_mod (pe_op op_mul (pv 2) (pv 2)) pe_int))
      (pss_one (ps_ret (pe_op op_fdiv (pe_op op_mod (pe_op op_mul (pe_op op_add (pv 2) (pe_op op_mul pe_int (pe_op op_add (pv 1) pe_int))) pe_int) pe_int) pe_int)))), ?_⟩
    refine ⟨_, rfl, _, _, rfl, rfl, (by show (0 : Int) < 2147483647; decide), _, rfl, _, _, rfl, rfl, .inl (by decide), _, _, rfl, rfl, _, _, rfl, rfl, _, _, rfl, rfl, .inr (by decide), _, _, rfl, rfl, (by show (0 : Int) < 2147483647; decide), ?_⟩
    have b1 := Int.emod_nonneg ((c % 2147483647 + 7919 * k + 1) * 48271) (show (2147483647 : Int) ≠ 0 by decide)
    have b2 := Int.emod_lt_of_pos ((c % 2147483647 + 7919 * k + 1) * 48271) (show (0 : Int) < 2147483647 by decide)
    generalize (c % 2147483647 + 7919 * k + 1) * 48271 % 2147483647 = n at b1 b2 ⊢
    refine ⟨_, rfl, _, rfl, _, _, rfl, rfl, .inl ⟨by omega, by omega⟩, _, _, rfl, rfl, (by show (0 : Int) < 2147483629; decide), ?_⟩
    refine ⟨_, rfl, _, rfl, _, _, rfl, rfl, _, _, rfl, rfl, .inl (by decide), _, _, rfl, rfl, _, _, rfl, rfl, .inr (by decide), _, _, rfl, rfl, (by show (0 : Int) < 2147483579; decide), _, _, rfl, rfl, (by show (0 : Int) < 8 ∧ (8 : Int) < 1073741824; decide), q _⟩

/-! ### _law_pot -/
def spPot : Sp := fun vs H Q _ => ∃ c : Int, vs = [.int c] ∧ ∀ p H', Same H H' → H p = none → PotAt H' p → Q (.ref p) H'
theorem scPot : FnScope ["cell"] ["cell"] (defScope sPot) := ⟨rfl, rfl, rfl, by decide +kernel, rfl, by decide +kernel, by decide +kernel⟩
theorem ok_pot {f : Addr} {fd : FuncData} (F : Fun K "_law_pot" "_law_pot" sPot f fd) (T : Txt K w mg CS CY PA) : FnOk P w K mg base CX0 1 f fd ["cell"] spPot := by
  refine F.ok scPot (fun vs H Q E h => ?_) (fun cdv A outer s H vs Q E hr h => ?_)
  · obtain ⟨c, rfl, _⟩ := h
    rfl
  · obtain ⟨c, rfl, q⟩ := h
    refine ⟨_, pss_one (ps_ret (pe_lst (pa_cons (pe_op op_mul (pe_op op_modN (pv 0) (pe_op op_mulW (pe_op op_mulW (pe_op op_mulW (pe_op op_pow pe_int pe_int) (pe_op op_pow pe_int pe_int)) (pe_op op_pow pe_int pe_int)) (pe_op op_pow pe_int pe_int)))
      (pe_callTy call_int1 (by rfl) T.int (by decide +kernel) (pa_cons (pe_cmpR op_ge (pv 0) (pe_op op_pow pe_int pe_int) (nomark _)) pa_nil))) (pa_cons (pv 0) (pa_cons pe_int pa_nil))))), ?_⟩
    have pw : ∀ n : Int, n = 50 ∨ n = 18 → CPow 10 n := fun n h => by rcases h with rfl | rfl <;> exact ⟨by decide, by decide, by decide⟩
    have e50 : ((10 : Int) ^ (50 : Int).toNat).natAbs < 2 ^ 170 := by decide +kernel
    have e100 : ((10 : Int) ^ (50 : Int).toNat * (10 : Int) ^ (50 : Int).toNat).natAbs < 2 ^ 340 := by decide +kernel
    have e150 : ((10 : Int) ^ (50 : Int).toNat * (10 : Int) ^ (50 : Int).toNat * (10 : Int) ^ (50 : Int).toNat).natAbs < 2 ^ 510 := by decide +kernel
    refine ⟨_, rfl, _, _, rfl, rfl, pw _ (.inl rfl), _, _, rfl, rfl, pw _ (.inl rfl), _, _, rfl, rfl, wide_mul e50 e50 (by decide) (by decide) (by decide), _, _, rfl, rfl, pw _ (.inl rfl), _, _, rfl, rfl, wide_mul e100 e50 (by decide) (by decide) (by decide),
      _, _, rfl, rfl, pw _ (.inl rfl), _, _, rfl, rfl, wide_mul e150 e50 (by decide) (by decide) (by decide), _, _, rfl, rfl, ?_, ?_⟩
    · show ((10 : Int) ^ (50 : Int).toNat * (10 : Int) ^ (50 : Int).toNat * (10 : Int) ^ (50 : Int).toNat * (10 : Int) ^ (50 : Int).toNat) ≠ 0
      decide +kernel
    · refine ⟨_, rfl, _, _, rfl, rfl, pw _ (.inr rfl), _, _, rfl, rfl, .inr ⟨_, rfl, ?_⟩⟩
      have b1 : ∀ m : Int, 0 < m → m.natAbs < 2 ^ 680 → (c.fmod m).natAbs < 2 ^ 680 := fun m h0 h1 => by
        rw [Int.fmod_eq_emod_of_nonneg _ (by omega)]
        have h2 := Int.emod_nonneg c (show m ≠ 0 by omega)
        have h3 := Int.emod_lt_of_pos c h0
        exact Nat.lt_trans (by omega) h1
      have b2 := b1 ((10 : Int) ^ (50 : Int).toNat * (10 : Int) ^ (50 : Int).toNat * (10 : Int) ^ (50 : Int).toNat * (10 : Int) ^ (50 : Int).toNat) (by decide +kernel) (by decide +kernel)
      have b3 : ∀ (m : Int), m.natAbs < 2 ^ 680 → ∀ b : Bool, -(2 ^ 64) < (if b = true then (1 : Int) else 0) ∧ (if b = true then (1 : Int) else 0) < 2 ^ 64 ∧ (m * (if b = true then (1 : Int) else 0)).natAbs < 2 ^ 700 := fun m b2 b => by
        have b4 : m.natAbs < 2 ^ 700 := Nat.lt_trans b2 (Nat.pow_lt_pow_right (by decide) (by decide))
        cases b with
        | true => exact ⟨by decide, by decide, by rw [if_pos rfl, Int.mul_one]; exact b4⟩
        | false =>
          refine ⟨by decide, by decide, ?_⟩
          rw [if_neg (by decide), Int.mul_zero]
          exact Nat.pow_pos (by decide)
      refine ⟨_, _, rfl, rfl, .inr ⟨(b3 0 (Nat.pow_pos (by decide)) _).1, (b3 0 (Nat.pow_pos (by decide)) _).2.1⟩, _, rfl, (by show 3 ≤ sizeLine; decide), fun p hp => ?_⟩
      exact q p _ (Same.new _ hp) hp ⟨_, _, _, upd_same, (b3 _ b2 _).2.2⟩

/-! ### _law_take -/
def spTake : Sp := fun vs H Q _ => ∃ (p : Addr) (m : Int), vs = [.ref p, .int m] ∧ PotAt H p ∧ 0 < m ∧ m ≤ 10000000000 ∧ ∀ (r : Nat) H', Keep p p H H' → PotAt H' p → (r : Int) < m → Q (.int r) H'
theorem scTake : FnScope ["pot", "many", "told"] ["pot", "many"] (defScope sTake) := ⟨rfl, rfl, rfl, by decide +kernel, rfl, by decide +kernel, by decide +kernel⟩
theorem ok_take {f : Addr} {fd : FuncData} (F : Fun K "_law_take" "_law_take" sTake f fd) (GM : FnG P w K mg base 1 "_law_mixed" ["cell", "k"] spMixed) : FnOk P w K mg base CX0 2 f fd ["pot", "many"] spTake := by
  refine F.ok scTake (fun vs H Q E h => ?_) (fun cdv A outer s H vs Q E hr h => ?_)
  · obtain ⟨p, m, rfl, _⟩ := h
    rfl
  · obtain ⟨p, m, rfl, ⟨a, c, k, hp, ha⟩, hm, hm2, q⟩ := h
    have nd := scTake.nd
    refine ⟨_, pss_cons (ps_asg (pe_op op_add (pe_ix ix_list (pv 0) pe_int (fun _ _ => rfl)) pe_int) (pg_sub (pv 0) pe_int set_list))
      (pss_cons (ps_if (pt_cmpR op_gt (pe_ix ix_list (pv 0) pe_int (fun _ _ => rfl)) pe_int (nomark _))
        (pss_cons (ps_set (i := 2) nd rfl (Or.inl rfl) (pe_op op_modN (pe_ix ix_list (pv 0) pe_int (fun _ _ => rfl)) (pv 1)))
        (pss_cons (ps_asg (pe_op op_fdivW (pe_ix ix_list (pv 0) pe_int (fun _ _ => rfl)) (pv 1)) (pg_sub (pv 0) pe_int set_list))
        (pss_one (ps_ret (pv 2))))) pss_nil)
      (pss_one (ps_ret (pe_op op_modN (pcall GM hr (by decide) rfl (pa_cons (pe_ix ix_list (pv 0) pe_int (fun _ _ => rfl)) (pa_cons (pe_ix ix_list (pv 0) pe_int (fun _ _ => rfl)) pa_nil))) (pv 1))))), ?_⟩
    refine ⟨_, rfl, _, _, _, _, rfl, rfl, SqL.of hp, at_of (j := 2) rfl rfl, _, _, rfl, rfl, _, rfl, p, _, _, 2, rfl, rfl, hp, rfl, ?_⟩
    generalize hH1 : upd H p (.lst ([V.int a, V.int c, V.int k].set 2 (V.int (k + 1)))) = H1
    have p1 : H1 p = some (.lst [.int a, .int c, .int (k + 1)]) := hH1 ▸ upd_same
    have k1 : Keep p p H H1 := hH1 ▸ (Keep.refl H).p _
    have rem : ∀ n : Int, ∃ r : Nat, n.fmod m = (r : Int) ∧ (r : Int) < m := fun n => by
      rw [Int.fmod_eq_emod_of_nonneg _ (by omega)]
      have h2 := Int.emod_nonneg n (show m ≠ 0 by omega)
      have h3 := Int.emod_lt_of_pos n hm
      exact ⟨(n % m).toNat, by omega, by omega⟩
    refine ⟨_, rfl, _, _, _, _, rfl, rfl, SqL.of p1, at_of (j := 0) rfl rfl, _, _, rfl, rfl, _, rfl, ?_⟩
    by_cases h0 : 0 < a
    · refine iteD (by omega) ?_
      refine ⟨_, rfl, _, _, _, _, rfl, rfl, SqL.of p1, at_of (j := 0) rfl rfl, _, rfl, _, _, rfl, rfl, by omega, ?_⟩
      have hmb : m.natAbs < 2 ^ 64 := by omega
      refine ⟨_, rfl, _, _, _, _, rfl, rfl, SqL.of p1, at_of (j := 0) rfl rfl, _, rfl, _, _, rfl, rfl, wide_div (i := a) hm hmb (by decide) (by decide), _, rfl, p, _, _, 0, rfl, rfl, p1, rfl, ?_⟩
      obtain ⟨r, er, hr2⟩ := rem a
      refine ⟨V.int r, by rw [← er]; rfl, q r _ (k1.p _) ⟨_, _, _, upd_same, ?_⟩ hr2⟩
      refine Nat.lt_of_le_of_lt ?_ ha
      exact Int.natAbs_ediv_le_natAbs a m
    · refine iteDn (by omega) ?_
      refine ⟨_, rfl, _, _, _, _, rfl, rfl, SqL.of p1, at_of (j := 1) rfl rfl, _, rfl, _, _, _, _, rfl, rfl, SqL.of p1, at_of (j := 2) rfl rfl, c, k + 1, rfl, fun n => ?_⟩
      refine ⟨_, rfl, _, _, rfl, rfl, by omega, ?_⟩
      obtain ⟨r, er, hr2⟩ := rem n
      show Q (V.int (n.fmod m)) H1
      rw [er]
      exact q r _ k1 ⟨_, _, _, p1, ha⟩ hr2
end
end Far
end

section
set_option linter.all false
set_option maxRecDepth 100000
set_option maxHeartbeats 4000000
namespace Far
open PySem PySem.Spec PyProof.Rows L2 FarN FarR
theorem PotAt.noT {H : Hp} {p : Addr} (h : PotAt H p) : NoT (H p) := by
  obtain ⟨a, c, k, e, _⟩ := h
  exact NoT.lst e
theorem join_ones (l : List Nat) : Txt.join "" (l.map one) = ln l := by
  have e : ∀ l : List Nat, TL.joinL [] ((l.map one).map TL.tl) = l := fun l => by
    induction l with
    | nil => rfl
    | cons c r ih =>
      cases r with
      | nil => rfl
      | cons d r =>
        show TL.tl (one c) ++ ([] ++ TL.joinL [] ((List.map one (d :: r)).map TL.tl)) = c :: d :: r
        rw [ih]
        rfl
  rw [TL.join_eq]
  have h := TL.tl_join "" (l.map one)
  have h2 : TL.tl (Str.join "" (l.map one)) = l := h.trans (e l)
  have h3 : (Str.join "" (l.map one)).cps.toList = l := h2
  cases hs : Str.join "" (l.map one) with
  | mk c =>
    rw [hs] at h3
    show Str.mk c = Str.mk l.toArray
    rw [← h3]
theorem pow10 (n : Int) (h0 : 0 ≤ n) (h : n ≤ 1000000) : CPow 10 n := ⟨h0, h, by decide⟩
section
variable {P : Program} {w : World} {K : PySem.W.Frag} {mg : Str → Option Value} {base : Heap} {CS CY PA : Addr}
/-! ### _law_sign -/
def spLSign : Sp := fun vs H Q _ => ∃ p : Addr, vs = [.ref p] ∧ PotAt H p ∧ ∀ (c : Nat) H', Keep p p H H' → PotAt H' p → isSg c → Q (.str (one c)) H'
theorem scLSign : FnScope ["pot", "signs"] ["pot"] (defScope sLSign) := ⟨rfl, rfl, rfl, by decide +kernel, rfl, by decide +kernel, by decide +kernel⟩
theorem two27 {r : Nat} (h : (r : Int) < 2) : ∃ m : Int, atI [V.int 2, V.int 27] (r : Int) = some (.int m) ∧ 0 < m ∧ m ≤ 27 := by
  have : r = 0 ∨ r = 1 := by omega
  rcases this with rfl | rfl
  · exact ⟨2, rfl, by decide, by decide⟩
  · exact ⟨27, rfl, by decide, by decide⟩
theorem sign_at {r : Nat} (h : r < 27) : ∃ c, atI signs.cps.toList (r : Int) = some c ∧ isSg c := by
  have hl : signs.cps.toList.length = 27 := by decide +kernel
  have hr : r < signs.cps.toList.length := by omega
  exact ⟨signs.cps.toList[r], atI_nat (List.getElem?_eq_getElem hr), List.getElem_mem hr⟩
theorem ok_lsign {f : Addr} {fd : FuncData} (F : Fun K "_law_sign" "_law_sign" sLSign f fd) (GT : FnG P w K mg base 2 "_law_take" ["pot", "many"] spTake) : FnOk P w K mg base CX0 3 f fd ["pot"] spLSign := by
  refine F.ok scLSign (fun vs H Q E h => ?_) (fun cdv A outer s H vs Q E hr h => ?_)
  · obtain ⟨p, rfl, _⟩ := h
    rfl
  · obtain ⟨p, rfl, hp, q⟩ := h
    have nd := scLSign.nd
    refine ⟨_, pss_cons (ps_set (i := 1) nd rfl (Or.inl rfl) pe_str)
      (pss_one (ps_ret (pe_ix ix_str (pv 1) (pcall GT hr (by decide) rfl (pa_cons (pv 0) (pa_cons (pe_ix ix_list (pe_lst (pa_cons pe_int (pa_cons pe_int pa_nil))) (pcall GT hr (by decide) rfl (pa_cons (pv 0) (pa_cons pe_int pa_nil))) (fun _ _ => rfl)) pa_nil))) (fun _ _ => rfl)))), ?_⟩
    obtain ⟨a, c, k, hp1, ha⟩ := id hp
    refine ⟨_, rfl, _, rfl, (by show 2 ≤ sizeLine; decide), fun l hl => ?_⟩
    have s1 := Same.new (.lst [.int 2, .int 27]) hl
    refine ⟨_, rfl, p, 2, rfl, ⟨a, c, k, s1 _ _ hp1, ha⟩, by decide, by decide, fun r H1 k1 pt1 hr1 => ?_⟩
    obtain ⟨m, em, m0, m27⟩ := two27 hr1
    have hlp : l ≠ p := (ne_of_none hp1 hl).symm
    refine ⟨_, _, _, _, rfl, rfl, SqL.of (k1 _ _ hlp hlp upd_same), em, p, m, rfl, pt1, m0, by omega, fun r2 H2 k2 pt2 hr2 => ?_⟩
    obtain ⟨c, ec, hc⟩ := sign_at (r := r2) (by omega)
    refine ⟨_, _, c, rfl, rfl, (by show (27 : Nat) ≤ sizeLine; decide), ec, ?_⟩
    exact q c H2 (((Keep.of s1).trans k1).trans k2) pt2 hc

/-! ### _law_short_line -/
def spShort : Sp := fun vs H Q _ => ∃ p : Addr, vs = [.ref p] ∧ PotAt H p ∧ ∀ (l : List Nat) H', Keep p p H H' → PotAt H' p → l.length ≤ 40 → (∀ c ∈ l, isSg c) → Q (.str (ln l)) H'
theorem scShort : FnScope ["pot", "many", "k"] ["pot"] (defScope sShort) := ⟨rfl, rfl, rfl, by decide +kernel, rfl, by decide +kernel, by decide +kernel⟩
theorem pick4 {a b c d : Nat} {r : Nat} (h : (r : Int) < 4) : ∃ n : Nat, atI [V.int a, V.int b, V.int c, V.int d] (r : Int) = some (.int n) ∧ (n = a ∨ n = b ∨ n = c ∨ n = d) := by
  have : r = 0 ∨ r = 1 ∨ r = 2 ∨ r = 3 := by omega
  rcases this with rfl | rfl | rfl | rfl
  · exact ⟨a, rfl, .inl rfl⟩
  · exact ⟨b, rfl, .inr (.inl rfl)⟩
  · exact ⟨c, rfl, .inr (.inr (.inl rfl))⟩
  · exact ⟨d, rfl, .inr (.inr (.inr rfl))⟩
theorem ok_short {f : Addr} {fd : FuncData} (F : Fun K "_law_short_line" "_law_short_line" sShort f fd) (T : Txt K w mg CS CY PA) (GT : FnG P w K mg base 2 "_law_take" ["pot", "many"] spTake) (GS : FnG P w K mg base 3 "_law_sign" ["pot"] spLSign) :
    FnOk P w K mg base CX0 4 f fd ["pot"] spShort := by
  refine F.ok scShort (fun vs H Q E h => ?_) (fun cdv A outer s H vs Q E hr h => ?_)
  · obtain ⟨p, rfl, _⟩ := h
    rfl
  · obtain ⟨p, rfl, hp, q⟩ := h
    have nd := scShort.nd
    refine ⟨_, pss_cons (ps_set (i := 1) nd rfl (Or.inl rfl) (pe_ix ix_list (pe_lst (pa_cons (pcall GT hr (by decide) rfl (pa_cons (pv 0) (pa_cons pe_int pa_nil))) (pa_cons (pcall GT hr (by decide) rfl (pa_cons (pv 0) (pa_cons pe_int pa_nil))) (pa_cons (pcall GT hr (by decide) rfl (pa_cons (pv 0) (pa_cons pe_int pa_nil))) (pa_cons pe_int pa_nil)))))
        (pcall GT hr (by decide) rfl (pa_cons (pv 0) (pa_cons pe_int pa_nil))) (fun _ _ => rfl)))
      (pss_one (ps_ret (pe_join pe_str (pe_lc (own := [("k", 2)]) (g := gName 2) (tt := tYes) (by rfl) nd (pi_range1 rfl T.range (pa_cons (pv 1) pa_nil)) (blkOk_by (N := ["pot", "many", "k"]) (sc := defScope sShort) (by decide +kernel)) (fun _ _ _ _ _ => pg_name (i := 2) nd rfl (Or.inl rfl)) (fun _ _ _ _ _ => pts_nil)
        (fun _ _ _ _ _ => pcall GS hr (by decide) rfl (pa_cons (pv 0) pa_nil)))))), ?_⟩
    refine ⟨_, rfl, p, 4, rfl, hp, by decide, by decide, fun r1 H1 k1 pt1 h1 => ⟨_, rfl, p, 4, rfl, pt1, by decide, by decide, fun r2 H2 k2 pt2 h2 => ⟨_, rfl, p, 13, rfl, pt2, by decide, by decide, fun r3 H3 k3 pt3 h3 => ⟨(by show 4 ≤ sizeLine; decide), fun l hl => ?_⟩⟩⟩⟩
    obtain ⟨pa, pc, pk, pe1, pe2⟩ := id pt3
    have s4 := Same.new (.lst [.int r1, .int r2, .int r3, .int 40]) hl
    refine ⟨_, rfl, p, 4, rfl, ⟨pa, pc, pk, s4 _ _ pe1, pe2⟩, by decide, by decide, fun r4 H4 k4 pt4 h4 => ?_⟩
    have hlp : l ≠ p := (ne_of_none pe1 hl).symm
    obtain ⟨n, en, hn⟩ := pick4 (a := r1) (b := r2) (c := r3) (d := 40) h4
    have hn40 : n ≤ 40 := by omega
    have k04 : Keep p p H H4 := (((k1.trans k2).trans k3).trans (Keep.of s4)).trans k4
    refine ⟨_, _, _, _, rfl, rfl, SqL.of (k4 _ _ hlp hlp upd_same), en, ⟨_, rfl⟩, _, rfl, (n : Int), rfl, by omega, by omega, ?_⟩
    rw [Int.toNat_natCast]
    refine fun D hD => ?_
    obtain ⟨qa, qc, qk, qe1, qe2⟩ := id pt4
    have hDp : D ≠ p := (ne_of_none qe1 hD).symm
    refine lc_range (lo := 0) (n := n) (fun i Hc => ∃ ys : List Nat, Hc D = some (.lst ((ys.map one).map V.str)) ∧ ys.length = i ∧ (∀ c ∈ ys, isSg c) ∧ PotAt Hc p ∧ Keep p D H4 Hc)
      ⟨[], upd_same, rfl, fun c hc => (nomatch hc), ⟨qa, qc, qk, (upd_ne hDp.symm).trans qe1, qe2⟩, (Keep.refl H4).w _⟩ ?_ ?_
    · rintro i Hc hi ⟨ys, e1, e2, e3, e4, e5⟩
      refine ⟨rfl, ?_⟩
      refine ⟨_, rfl, p, rfl, e4, fun c H5 k5 pt5 hc => ?_⟩
      have e6 := k5 _ _ hDp hDp e1
      obtain ⟨ta, tc, tk, te1, te2⟩ := id pt5
      refine ⟨_, e6, (by rw [List.length_map, List.length_map]; exact small (by omega)), ys ++ [c], ?_, by rw [List.length_append]; show _ + 1 = _; omega, fun d hd => ?_, ⟨ta, tc, tk, (upd_ne hDp.symm).trans te1, te2⟩, ?_⟩
      · rw [upd_same, List.map_append, List.map_append]
        rfl
      · rcases List.mem_append.mp hd with z | z
        · exact e3 d z
        · rw [List.mem_singleton.mp z]; exact hc
      · exact (e5.trans (fun b u b1 b2 e => k5 b u b1 b1 e)).w _
    · rintro Hc ⟨ys, e1, e2, e3, e4, e5⟩
      refine ⟨"", D, ys.map one, rfl, rfl, .inl (SqL.of e1), ?_, ?_⟩
      · have : ((ys.map one).map (·.length)).sum = ys.length := by
          clear e1 e2 e3 e4
          induction ys with
          | nil => rfl
          | cons c r ih => rw [List.map_cons, List.map_cons, List.sum_cons, ih, List.length_cons]; show 1 + _ = _; omega
        rw [this]
        show ys.length + (ys.map one).length * 0 ≤ 16777216
        omega
      · rw [join_ones]
        refine q ys Hc (k04.trans ?_) e4 (by omega) e3
        intro b u b1 _ e
        exact e5 b u b1 (ne_of_none e hD) e
end
end Far
end

section
set_option linter.all false
set_option maxRecDepth 100000
set_option maxHeartbeats 4000000
namespace Far
open PySem PySem.Spec PyProof.Rows L2 FarN FarR
/-- a plan of at most m choices of the seat f -/
def PlOk (f : Bool) (m : Nat) (H : Hp) (a : Addr) (chs : List Ch) : Prop := (∃ xs, H a = some (.lst xs) ∧ Row (ChAt f) H xs chs) ∧ chs.length ≤ m
theorem PlOk.keep {f : Bool} {m : Nat} {H H' : Hp} {a p q : Addr} {chs : List Ch} (k : Keep p q H H') (n1 : NoT (H p)) (n2 : NoT (H q)) (h1 : a ≠ p) (h2 : a ≠ q) (h : PlOk f m H a chs) : PlOk f m H' a chs := by
  obtain ⟨⟨xs, e1, e2⟩, e3⟩ := h
  exact ⟨⟨xs, k _ _ h1 h2 e1, e2.mono fun b d e => CAt.keep (k.tk n1 n2) e⟩, e3⟩
theorem pick_kind {r : Nat} (h : (r : Int) < 3) : ∃ b : Bool, atI [V.str "put", V.str "put", V.str "cut"] (r : Int) = some (.str (if b then "put" else "cut")) := by
  have : r = 0 ∨ r = 1 ∨ r = 2 := by omega
  rcases this with rfl | rfl | rfl
  · exact ⟨true, rfl⟩
  · exact ⟨true, rfl⟩
  · exact ⟨false, rfl⟩
section
variable {P : Program} {w : World} {K : PySem.W.Frag} {mg : Str → Option Value} {base : Heap} {CS CY PA : Addr}
/-! ### _law_plans -/
def spPlans : Sp := fun vs H Q _ => ∃ (p : Addr) (m : Nat), vs = [.ref p, .int m] ∧ PotAt H p ∧ m ≤ 3 ∧ ∀ (l : Addr) (Pl : Bool → List Ch) H', Keep p p H H' → PotAt H' p → PlansAt H' l Pl → (∀ f, (Pl f).length ≤ m) → Q (.ref l) H'
theorem scPlans : FnScope ["pot", "most", "found", "seat", "plan", "k", "far", "number"] ["pot", "most"] (defScope sPlans) := ⟨rfl, rfl, rfl, by decide +kernel, rfl, by decide +kernel, by decide +kernel⟩
theorem ok_plans {f : Addr} {fd : FuncData} (F : Fun K "_law_plans" "_law_plans" sPlans f fd) (T : Txt K w mg CS CY PA) (GT : FnG P w K mg base 2 "_law_take" ["pot", "many"] spTake) (GS : FnG P w K mg base 3 "_law_sign" ["pot"] spLSign) :
    FnOk P w K mg base CX0 4 f fd ["pot", "most"] spPlans := by
  refine F.ok scPlans (fun vs H Q E h => ?_) (fun cdv A outer s H vs Q E hr h => ?_)
  · obtain ⟨p, m, rfl, _⟩ := h
    rfl
  · obtain ⟨p, m, rfl, hp, hm, q⟩ := h
    have nd := scPlans.nd
    refine ⟨_, pss_cons (ps_set (i := 2) nd rfl (Or.inl rfl) (pe_lst pa_nil))
      (pss_cons (ps_for PassesOwn.never rfl (pi_range1 rfl T.range (pa_cons pe_int pa_nil)) (pg_name (i := 3) nd rfl (Or.inl rfl))
        (pss_cons (ps_set (i := 4) nd rfl (Or.inl rfl) (pe_lst pa_nil))
        (pss_cons (ps_for PassesOwn.never rfl (pi_range1 rfl T.range (pa_cons (pcall GT hr (by decide) rfl (pa_cons (pv 0) (pa_cons (pe_op op_add (pv 1) pe_int) pa_nil))) pa_nil)) (pg_name (i := 5) nd rfl (Or.inl rfl))
          (pss_cons (ps_set (i := 6) nd rfl (Or.inl rfl) (pe_op op_add (pe_op op_mul (pcall GT hr (by decide) rfl (pa_cons (pv 0) (pa_cons (pe_op op_pow pe_int pe_int) pa_nil))) (pe_op op_pow pe_int pe_int)) (pcall GT hr (by decide) rfl (pa_cons (pv 0) (pa_cons (pe_op op_pow pe_int pe_int) pa_nil)))))
          (pss_cons (ps_set (i := 7) nd rfl (Or.inl rfl) (pe_ix ix_list (pe_lst (pa_cons pe_int (pa_cons (pcall GT hr (by decide) rfl (pa_cons (pv 0) (pa_cons pe_int pa_nil))) (pa_cons (pcall GT hr (by decide) rfl (pa_cons (pv 0) (pa_cons pe_int pa_nil))) (pa_cons (pv 6) pa_nil)))))
              (pcall GT hr (by decide) rfl (pa_cons (pv 0) (pa_cons pe_int pa_nil))) (fun _ _ => rfl)))
          (pss_one (ps_expr (pe_bm PySem.F.plainAttrs_list PySem.F.slot_list_append PySem.F.type_list_append mt_append (pv 4) (pa_cons (pe_tup (pa_cons (pv 3) (pa_cons (pe_ix ix_list (pe_lst (pa_cons pe_str (pa_cons pe_str (pa_cons pe_str pa_nil)))) (pcall GT hr (by decide) rfl (pa_cons (pv 0) (pa_cons pe_int pa_nil))) (fun _ _ => rfl))
              (pa_cons (pv 7) (pa_cons (pcall GS hr (by decide) rfl (pa_cons (pv 0) pa_nil)) pa_nil))))) pa_nil)))))))
        (pss_one (ps_expr (pe_bm PySem.F.plainAttrs_list PySem.F.slot_list_append PySem.F.type_list_append mt_append (pv 2) (pa_cons (pv 4) pa_nil)))))))
      (pss_one (ps_ret (pv 2)))), ?_⟩
    obtain ⟨pa, pc, pk, pe1, pe2⟩ := id hp
    refine ⟨(by show 0 ≤ sizeLine; decide), fun fo hfo => ?_⟩
    have hpf : p ≠ fo := ne_of_none pe1 hfo
    refine ⟨2, rfl, by decide, by decide, for_range (n := 2)
      (fun i σ H2 => ∃ (x3 x4 x5 x6 x7 : Option V) (fs : List (Addr × List Ch)), σ = [some (.ref p), some (.int m), some (.ref fo), x3, x4, x5, x6, x7] ∧ Keep p fo H H2 ∧ PotAt H2 p ∧ H2 fo = some (.lst (fs.map fun z => V.ref z.1)) ∧ fs.length = i ∧
        ∀ (j : Nat) (z : Addr × List Ch), fs[j]? = some z → PlOk (decide (j = 0)) m H2 z.1 z.2 ∧ z.1 ≠ p ∧ z.1 ≠ fo)
      ⟨none, none, none, none, none, [], rfl, (Keep.refl H).w _, ⟨pa, pc, pk, (upd_ne hpf).trans pe1, pe2⟩, upd_same, rfl, fun j z e => by simp at e⟩ ?_ ?_⟩
    · rintro i σ H2 hi ⟨_, _, _, _, _, fs, rfl, k2, pt2, fo2, hl2, hz2⟩
      obtain ⟨f, ef, hf⟩ := sn_of hi
      rw [ef]
      have efi : f = decide (i = 0) := by rcases hf with ⟨rfl, rfl⟩ | ⟨rfl, rfl⟩ <;> rfl
      refine ⟨(by show 0 ≤ sizeLine; decide), fun pl hpl => ?_⟩
      obtain ⟨ta, tc, tk, te1, te2⟩ := id pt2
      have hplp : pl ≠ p := (ne_of_none te1 hpl).symm
      have hplf : pl ≠ fo := (ne_of_none fo2 hpl).symm
      have s3 := Same.new (.lst []) hpl
      have pt3 : PotAt (upd H2 pl (.lst [])) p := ⟨ta, tc, tk, s3 _ _ te1, te2⟩
      refine ⟨_, rfl, _, rfl, _, _, rfl, rfl, p, _, rfl, pt3, by omega, by omega, fun r H3 k3 pt3' hr3 => ⟨(r : Int), rfl, by omega, by omega, ?_⟩⟩
      rw [Int.toNat_natCast]
      have hrm : r ≤ m := by omega
      have pl3 : H3 pl = some (.lst []) := k3 _ _ hplp hplp upd_same
      refine for_range (n := r)
        (fun j σ H4 => ∃ (x5 x6 x7 : Option V) (ys : List V) (chs : List Ch), σ = [some (.ref p), some (.int m), some (.ref fo), some (.int (sn f)), some (.ref pl), x5, x6, x7] ∧ Keep p pl H2 H4 ∧ PotAt H4 p ∧ H4 pl = some (.lst ys) ∧ Row (ChAt f) H4 ys chs ∧ chs.length = j)
        ⟨_, _, _, [], [], rfl, (Keep.of s3).trans (fun b u b1 b2 e => k3 b u b1 b1 e), pt3', pl3, trivial, rfl⟩ ?_ ?_
      · rintro j σ H4 hj ⟨_, _, _, ys, chs, rfl, k4, pt4, pl4, row4, len4⟩
        have c10 := pow10 10 (by decide) (by decide)
        have c21 := pow10 21 (by decide) (by decide)
        have e10 : (10 : Int) ^ (10 : Int).toNat = 10000000000 := by decide
        refine ⟨_, rfl, _, _, rfl, rfl, c10, p, _, rfl, pt4, by rw [e10]; decide, by rw [e10]; decide, fun r1 H5 k5 pt5 h5 => ?_⟩
        rw [e10] at h5
        refine ⟨_, _, rfl, rfl, c21, _, _, rfl, rfl, .inl ⟨by omega, by omega⟩, _, rfl, _, _, rfl, rfl, c10, p, _, rfl, pt5, by rw [e10]; decide, by rw [e10]; decide, fun r2 H6 k6 pt6 h6 => ⟨_, _, rfl, rfl, ?_⟩⟩
        have efar : (fun i j : Int => V.int (i + j)) ((fun i j : Int => i * j) (r1 : Int) ((10 : Int) ^ (21 : Int).toNat)) (r2 : Int) = V.int ((r1 * 10 ^ 21 + r2 : Nat) : Int) := by
          show V.int ((r1 : Int) * (10 : Int) ^ (21 : Int).toNat + (r2 : Int)) = _
          congr 1
        refine ⟨_, rfl, p, 3, rfl, pt6, by decide, by decide, fun r3 H7 k7 pt7 h7 => ⟨_, rfl, p, 50, rfl, pt7, by decide, by decide, fun r4 H8 k8 pt8 h8 => ⟨V.int ((r1 * 10 ^ 21 + r2 : Nat) : Int), by rw [← efar]; rfl, (by show 4 ≤ sizeLine; decide), fun l hl => ?_⟩⟩⟩
        obtain ⟨ua, uc, uk, ue1, ue2⟩ := id pt8
        have hlp : l ≠ p := (ne_of_none ue1 hl).symm
        have s8 := Same.new (.lst [.int 0, .int r3, .int r4, .int ((r1 * 10 ^ 21 + r2 : Nat) : Int)]) hl
        refine ⟨_, rfl, p, 4, rfl, ⟨ua, uc, uk, s8 _ _ ue1, ue2⟩, by decide, by decide, fun r5 H9 k9 pt9 h9 => ?_⟩
        obtain ⟨num, enum', _⟩ := pick4 (a := 0) (b := r3) (c := r4) (d := r1 * 10 ^ 21 + r2) h9
        refine ⟨_, _, _, _, rfl, rfl, SqL.of (k9 _ _ hlp hlp upd_same), enum', ?_⟩
        have kk : Keep p p H4 H9 := ((((k5.trans k6).trans k7).trans k8).trans (Keep.of s8)).trans k9
        have pl9 := kk _ _ hplp hplp pl4
        refine ⟨_, rfl, .inl ⟨rfl, _, SqL.of pl9⟩, _, rfl, (by show 3 ≤ sizeLine; decide), fun l2 hl2 => ?_⟩
        obtain ⟨va, vc, vk, ve1, ve2⟩ := id pt9
        have hl2p : l2 ≠ p := (ne_of_none ve1 hl2).symm
        have s9 := Same.new (.lst [.str "put", .str "put", .str "cut"]) hl2
        refine ⟨_, rfl, p, 3, rfl, ⟨va, vc, vk, s9 _ _ ve1, ve2⟩, by decide, by decide, fun r6 H10 k10 pt10 h10 => ?_⟩
        obtain ⟨kd, ekd⟩ := pick_kind h10
        refine ⟨_, _, _, _, rfl, rfl, SqL.of (k10 _ _ hl2p hl2p upd_same), ekd, _, rfl, _, rfl, p, rfl, pt10, fun c H11 k11 pt11 hc => ⟨(by show 4 ≤ sizeLine; decide), fun t ht => ?_⟩⟩
        have kA : Keep p p H4 H11 := ((kk.trans (Keep.of s9)).trans k10).trans k11
        have s12 := Same.new (.tup [.int (sn f), .str (if kd then "put" else "cut"), .int num, .str (one c)]) ht
        have kB := kA.trans (Keep.of s12)
        have pl12 := kB _ _ hplp hplp pl4
        have lenys : ys.length ≤ 100 := by rw [row4.len]; omega
        refine ⟨pl, ys, _, rfl, rfl, pl12, small (by omega), ?_⟩
        obtain ⟨wa, wc, wk, we1, we2⟩ := id pt11
        have tB : TK H4 (upd (upd H11 t (.tup [.int (sn f), .str (if kd then "put" else "cut"), .int num, .str (one c)])) pl (.lst (ys ++ [.ref t]))) := (kB.tk pt4.noT pt4.noT).trans (TK.upd _ (NoT.lst pl12))
        have htp : t ≠ pl := ne_of upd_same pl12 (by intro z; cases z)
        refine ⟨_, _, _, ys ++ [.ref t], chs ++ [if kd then .put num c else .cut num], rfl, ?_, ⟨wa, wc, wk, (upd_ne hplp.symm).trans (s12 _ _ we1), we2⟩, upd_same, (row4.mono fun a d e => CAt.keep tB e).snoc ?_, by rw [List.length_append]; show _ + 1 = _; omega⟩
        · exact (k4.trans (fun b u b1 b2 e => kB b u b1 b1 e)).w _
        · refine ⟨c, hc, fun n e h => ?_, ?_⟩
          · cases kd with
            | true => exact (Ch.put.inj h).2.symm
            | false => cases h
          · rw [upd_ne htp, upd_same]
            cases kd <;> rfl
      · rintro σ H4 ⟨_, _, _, ys, chs, rfl, k4, pt4, pl4, row4, len4⟩
        have fo4 := k4 _ _ hpf.symm hplf.symm fo2
        refine ⟨_, rfl, .inl ⟨rfl, _, SqL.of fo4⟩, _, rfl, fo, _, _, rfl, rfl, fo4, (by rw [List.length_map]; exact small (by omega)), ?_⟩
        obtain ⟨wa, wc, wk, we1, we2⟩ := id pt4
        have nT4 : NoT (H4 fo) := NoT.lst fo4
        have t5 : TK H4 (upd H4 fo (.lst (fs.map (fun z => V.ref z.1) ++ [.ref pl]))) := TK.upd _ nT4
        refine ⟨_, _, _, _, _, fs ++ [(pl, chs)], rfl, ?_, ⟨wa, wc, wk, (upd_ne hpf).trans we1, we2⟩, by rw [upd_same, List.map_append]; rfl, by rw [List.length_append]; show _ + 1 = _; omega, fun j z hz => ?_⟩
        · intro b u b1 b2 e
          have e2 := k2 b u b1 b2 e
          rw [upd_ne b2]
          exact k4 b u b1 (ne_of_none e2 hpl) e2
        · by_cases hj : j < fs.length
          · rw [List.getElem?_append_left hj] at hz
            obtain ⟨z1, z2, z3⟩ := hz2 j z hz
            have z4 : z.1 ≠ pl := by
              obtain ⟨⟨xs, e1, _⟩, _⟩ := z1
              exact ne_of_none e1 hpl
            refine ⟨?_, z2, z3⟩
            have a1 : PlOk (decide (j = 0)) m H4 z.1 z.2 := PlOk.keep k4 pt2.noT (NoT.non hpl) z2 z4 z1
            exact PlOk.keep (p := fo) (q := fo) ((Keep.refl H4).p _) nT4 nT4 z3 z3 a1
          · have hj2 : j = fs.length := by
              have := (List.getElem?_eq_some_iff.mp hz).1
              rw [List.length_append, List.length_singleton] at this
              omega
            subst hj2
            rw [List.getElem?_append_right (Nat.le_refl _), Nat.sub_self] at hz
            have ez : z = (pl, chs) := (Option.some.inj hz).symm
            subst ez
            refine ⟨⟨⟨ys, (upd_ne hplf).trans pl4, ?_⟩, by show chs.length ≤ m; omega⟩, hplp, hplf⟩
            rw [hl2, ← efi]
            exact row4.mono fun a d e => CAt.keep t5 e
    · rintro σ H2 ⟨_, _, _, _, _, fs, rfl, k2, pt2, fo2, hl2, hz2⟩
      obtain ⟨z0, z1, rfl⟩ : ∃ z0 z1, fs = [z0, z1] := by
        match fs, hl2 with
        | [z0, z1], _ => exact ⟨z0, z1, rfl⟩
      obtain ⟨⟨a1, a2⟩, _⟩ := hz2 0 z0 rfl
      obtain ⟨⟨b1, b2⟩, _⟩ := hz2 1 z1 rfl
      refine ⟨_, rfl, q fo (updB (fun _ => z1.2) true z0.2) H2 (fun b u c1 _ e => k2 b u c1 (ne_of_none e hfo) e) pt2 ⟨updB (fun _ => z1.1) true z0.1, fo2, fun f => ?_⟩ fun f => ?_⟩
      · cases f
        · exact b1
        · exact a1
      · cases f
        · exact b2
        · exact a2
end
end Far
end

section
set_option linter.all false
set_option maxRecDepth 100000
set_option maxHeartbeats 4000000
namespace Far
open PySem PySem.Spec PyProof.Rows L2 FarN FarR
theorem sub_drop {s l : List Nat} {at' i c : Nat} (hl : l[i]? = some c) (h : (s.drop at').Sublist (l.drop i)) :
    (at' < s.length → s[at']? = some c → (s.drop (at' + 1)).Sublist (l.drop (i + 1))) ∧ (¬ (at' < s.length ∧ s[at']? = some c) → (s.drop at').Sublist (l.drop (i + 1))) := by
  rw [drop_at hl] at h
  constructor
  · intro _ h2
    rw [drop_at h2] at h
    exact List.cons_sublist_cons.mp h
  · intro h2
    by_cases hlt : at' < s.length
    · have e : s[at']? = some s[at'] := List.getElem?_eq_getElem hlt
      rw [drop_at e] at h ⊢
      cases h with
      | cons _ h => exact h
      | cons_cons _ h => exact absurd ⟨hlt, by rw [e]⟩ h2
    · rw [List.drop_eq_nil_of_le (by omega)]
      exact List.nil_sublist _
section
variable {P : Program} {w : World} {K : PySem.W.Frag} {mg : Str → Option Value} {base : Heap} {CS CY PA : Addr}
/-! ### _law_holds(line, part), a part -/
def spHolds : Sp := fun vs H Q _ => ∃ l s : List Nat, vs = [.str (ln l), .str (ln s)] ∧ s.Sublist l ∧ l.length ≤ 1000 ∧ Q (.bl true) H
theorem scHolds : FnScope ["line", "part", "at", "sign"] ["line", "part"] (defScope sHolds) := ⟨rfl, rfl, rfl, by decide +kernel, rfl, by decide +kernel, by decide +kernel⟩
theorem ok_holds {f : Addr} {fd : FuncData} (F : Fun K "_law_holds" "_law_holds" sHolds f fd) (T : Txt K w mg CS CY PA) : FnOk P w K mg base CX0 1 f fd ["line", "part"] spHolds := by
  refine F.ok scHolds (fun vs H Q E h => ?_) (fun cdv A outer s H vs Q E hr h => ?_)
  · obtain ⟨l, s, rfl, _⟩ := h
    rfl
  · obtain ⟨l, s', rfl, hsub, hl, q⟩ := h
    have nd := scHolds.nd
    have hs : s'.length ≤ 1000 := Nat.le_trans hsub.length_le hl
    have hsz : (ln s').length ≤ sizeLine := by rw [ln_length]; exact small' hs
    refine ⟨_, pss_cons (ps_set (i := 2) nd rfl (Or.inl rfl) pe_int)
      (pss_cons (ps_for PassesOwn.never rfl (pi_str (pv 0)) (pg_name (i := 3) nd rfl (Or.inl rfl))
        (pss_one (ps_if (PW.pt (pw_and (pt_cmpR op_lt (pv 2) (pe_callB call_len_str (by rfl) T.len PySem.boot_len (pa_cons (pv 1) pa_nil)) (nomark _)) (pw_and1 (pt_cmpR op_eq (pe_ix ix_str (pv 1) (pv 2) (fun _ _ => rfl)) (pv 3) (nomark _)))))
          (pss_one (ps_set (i := 2) nd rfl (Or.inl rfl) (pe_op op_add (pv 2) pe_int))) pss_nil)))
      (pss_one (ps_ret (pe_cmpR op_eq (pv 2) (pe_callB call_len_str (by rfl) T.len PySem.boot_len (pa_cons (pv 1) pa_nil)) (nomark _))))), ?_⟩
    refine ⟨_, rfl, ln l, rfl, for_it walk_str (fun i σ H2 => H2 = H ∧ ∃ (a : Nat) (x : Option V), σ = [some (.str (ln l)), some (.str (ln s')), some (.int a), x] ∧ a ≤ s'.length ∧ (s'.drop a).Sublist (l.drop i))
      ⟨rfl, 0, none, rfl, Nat.zero_le _, hsub⟩ (fun _ _ _ _ _ => True.intro) ?_ ?_⟩
    · rintro i x σ H2 H3 hi ⟨rfl, a, _, rfl, ha, hsub2⟩ ⟨rfl, c, hc, rfl⟩
      have hc2 : l[i]? = some c := by
        have : (ln l).cps[i]? = some c := hc
        simpa [ln] using this
      obtain ⟨d1, d2⟩ := sub_drop hc2 hsub2
      refine ⟨_, rfl, _, rfl, _, rfl, hsz, _, _, rfl, rfl, _, rfl, ?_⟩
      by_cases hlt : a < s'.length
      · refine iteD (by rw [ln_length]; omega) ?_
        obtain ⟨e, he⟩ : ∃ e, s'[a]? = some e := ⟨s'[a], List.getElem?_eq_getElem hlt⟩
        refine ⟨_, rfl, _, rfl, _, _, e, rfl, rfl, hsz, (by rw [ln_cps]; exact atI_nat he), _, rfl, rfl, _, rfl, ?_⟩
        by_cases hce : e = c
        · subst hce
          refine iteD rfl ?_
          refine ⟨_, rfl, _, _, rfl, rfl, rfl, a + 1, _, rfl, by omega, d1 hlt he⟩
        · refine iteDn (fun z => hce ?_) ?_
          · have z2 : (⟨#[e]⟩ : Str) = ⟨#[c]⟩ := V.str.inj z
            have z3 := congrArg (fun t : Str => t.cps.toList) z2
            simpa using z3
          · exact ⟨rfl, a, _, rfl, ha, d2 (fun z => hce (by have := z.2; rw [he] at this; exact Option.some.inj this))⟩
      · refine iteDn (by rw [ln_length]; omega) ?_
        exact ⟨rfl, a, _, rfl, ha, d2 (fun z => hlt z.1)⟩
    · rintro σ H2 ⟨rfl, a, _, rfl, ha, hsub2⟩
      have e : (ln l).cps.size = l.length := by simp [ln]
      rw [e, List.drop_length] at hsub2
      have e2 : s'.drop a = [] := List.sublist_nil.mp hsub2
      have e3 : a = s'.length := by
        have := congrArg List.length e2
        rw [List.length_drop, List.length_nil] at this
        omega
      refine ⟨_, rfl, _, rfl, _, rfl, hsz, rfl, q_T (c := V.int (a : Int) = V.int (((ln s').length : Nat) : Int)) ?_ q⟩
      rw [ln_length, e3]

/-! ### _law_of(kind, plans) -/
def spLawOf : Sp := fun vs H Q _ => ∃ (b : Bool) (p : Addr) (Pl : Bool → List Ch), vs = [.str (if b then "put" else "cut"), .ref p] ∧ PlansAt H p Pl ∧ (∀ f, (Pl f).length ≤ 900) ∧
  ∀ (l : Addr) (Pl' : Bool → List Ch) H', Same H H' → PlansAt H' l Pl' → (∀ f, (Pl' f).length = (Pl f).length) → (∀ f, ∀ ch ∈ Pl' f, ch.isPut = b) → Q (.ref l) H'
theorem scLawOf : FnScope ["kind", "plans", "plan", "choice"] ["kind", "plans"] (defScope sLawOf) := ⟨rfl, rfl, rfl, by decide +kernel, rfl, by decide +kernel, by decide +kernel⟩
theorem ok_law_of {f : Addr} {fd : FuncData} (F : Fun K "_law_of" "_law_of" sLawOf f fd) : FnOk P w K mg base CX0 1 f fd ["kind", "plans"] spLawOf := by
  refine F.ok scLawOf (fun vs H Q E h => ?_) (fun cdv A outer s H vs Q E hr h => ?_)
  · obtain ⟨b, p, Pl, rfl, _⟩ := h
    rfl
  · obtain ⟨b, p, Pl, rfl, ⟨g, hp, hg⟩, hz, q⟩ := h
    have nd := scLawOf.nd
    refine ⟨_, pss_one (ps_ret (pe_lc (own := [("plan", 2)]) (g := gName 2) (tt := tYes) (te := tLc (iList K (tVar 2)) (gName 3) tYes (tOp (rCatT K) (tTup (tCons (tOp (rIxT K) (tVar 3) (tC (.int 0))) (tCons (tVar 0) tNil))) (tSl (rSlT K) (tVar 3) (tPart (tC (.int 2))) tNoPart)) [3]) (by rfl) nd (pi_list (pv 1)) (blkOk_by (N := ["kind", "plans", "plan", "choice"]) (sc := defScope sLawOf) (by decide +kernel)) (fun _ _ _ _ _ => pg_name (i := 2) nd rfl (Or.inl rfl)) (fun _ _ _ _ _ => pts_nil)
      (fun _ _ _ _ _ => pe_lc (own := [("choice", 3)]) (g := gName 3) (tt := tYes) (by rfl) nd (pi_list (pv 2)) (blkOk_by (N := ["kind", "plans", "plan", "choice"]) (sc := { kind := .function, names := [(".0", .local), ("plan", .local), ("kind", .cell)], isGenerator := false, isCoroutine := false }) (by decide +kernel)) (fun _ _ _ _ _ => pg_name (i := 3) nd rfl (Or.inl rfl)) (fun _ _ _ _ _ => pts_nil)
        (fun _ _ _ _ _ => pe_op op_catT (pe_tup (pa_cons (pe_ix ix_tup (pv 3) pe_int (fun _ _ => rfl)) (pa_cons (pv 0) pa_nil))) (pe_slice sl_tup (pv 3) (po_some pe_int) po_none))))), ?_⟩
    refine ⟨_, rfl, p, rfl, ⟨_, SqL.of hp⟩, fun D hD => ?_⟩
    refine lc_list (xs := [.ref (g true), .ref (g false)]) (fun i Hc => ∃ (la : Bool → Addr) (Pl' : Bool → List Ch), Hc D = some (.lst ([V.ref (la true), V.ref (la false)].take i)) ∧ Same H Hc ∧
        ∀ f : Bool, (if f = true then 1 else 2) ≤ i → (∃ xs, Hc (la f) = some (.lst xs) ∧ Row (ChAt f) Hc xs (Pl' f)) ∧ (Pl' f).length = (Pl f).length ∧ (∀ ch ∈ Pl' f, ch.isPut = b) ∧ la f ≠ D)
      ⟨fun _ => D, fun _ => [], upd_same, Same.new _ hD, fun f hf => by cases f; exact absurd hf (by decide); exact absurd hf (by decide)⟩ ?_ ?_ ?_
    · rintro i Hc _ ⟨_, _, _, sc, _⟩
      exact SqL.of (sc _ _ hp)
    · rintro i x Hc hx ⟨la, Pl', hDc, sc, hdone⟩
      have hi2 : i < 2 := (List.getElem?_eq_some_iff.mp hx).1
      obtain ⟨f, _, hf⟩ := sn_of hi2
      have ex : x = .ref (g f) := by
        rcases hf with ⟨rfl, rfl⟩ | ⟨rfl, rfl⟩ <;> exact (Option.some.inj hx).symm
      subst ex
      obtain ⟨xs, x1, x2⟩ := hg f
      refine ⟨rfl, ?_⟩
      refine ⟨_, rfl, g f, rfl, ⟨_, SqL.of (sc _ _ x1)⟩, fun D2 hD2 => ?_⟩
      have hDD : D ≠ D2 := ne_of_none hDc hD2
      refine lc_list (xs := xs) (fun j Hd => ∃ (ys : List V) (chs : List Ch), Hd D2 = some (.lst ys) ∧ Row (ChAt f) Hd ys chs ∧ chs.length = j ∧ (∀ ch ∈ chs, ch.isPut = b) ∧ Same Hc Hd)
        ⟨[], [], upd_same, trivial, rfl, fun ch h => (nomatch h), Same.new _ hD2⟩ ?_ ?_ ?_
      · rintro j Hd _ ⟨_, _, _, _, _, _, sd⟩
        exact SqL.of (sd _ _ (sc _ _ x1))
      · rintro j y Hd hy ⟨ys, chs, d1, d2, d3, d4, sd⟩
        have hjl : j < xs.length := (List.getElem?_eq_some_iff.mp hy).1
        have hxl : xs.length ≤ 900 := by rw [x2.len]; exact hz f
        obtain ⟨c, ch, rfl, hch, z, hz1, hz2, hc⟩ := x2.at hy
        have hcd := sd _ _ (sc _ _ hc)
        refine ⟨rfl, ?_⟩
        refine ⟨_, rfl, _, _, _, _, rfl, rfl, SqT.of hcd, at_of (j := 0) rfl rfl, _, rfl, (by show 2 ≤ sizeLine; decide), fun t1 h1 => ?_⟩
        have s1 := Same.new (.tup [.int (sn f), .str (if b = true then "put" else "cut")]) h1
        refine ⟨_, rfl, 2, rfl, c, _, rfl, SqT.of (s1 _ _ hcd), (by show ¬ (HT.sIx 4 0 (some 2) = 0 ∧ HT.sIx 4 4 none = 4); decide), fun t2 h2 => ?_⟩
        have s2 := Same.new (.tup (cutV [.int (sn f), .str (kw ch), .int ch.num, .str (one z)] (some 2) none)) h2
        refine ⟨t1, t2, _, _, rfl, rfl, SqT.of (s2 _ _ upd_same), SqT.of upd_same, by simp, (by show 2 + 2 ≤ sizeLine; decide), fun w => (by cases w), fun _ t3 h3 => ?_⟩
        have s3 := Same.new (.tup ([.int (sn f), .str (if b = true then "put" else "cut")] ++ cutV [.int (sn f), .str (kw ch), .int ch.num, .str (one z)] (some 2) none)) h3
        have s123 := (s1.trans s2).trans s3
        have d1' := s123 _ _ d1
        have t3D : t3 ≠ D2 := ne_of upd_same d1' (by intro w; cases w)
        refine ⟨ys, d1', small (by rw [d2.len]; omega), ys ++ [.ref t3], chs ++ [if b = true then .put ch.num z else .cut ch.num], upd_same, ?_, by rw [List.length_append]; show _ + 1 = _; omega, fun ch' h' => ?_, fun a u e => ?_⟩
        · have tk : TK Hd (upd (upd (upd (upd Hd t1 (.tup [.int (sn f), .str (if b = true then "put" else "cut")])) t2 (.tup (cutV [.int (sn f), .str (kw ch), .int ch.num, .str (one z)] (some 2) none))) t3 (.tup ([.int (sn f), .str (if b = true then "put" else "cut")] ++ cutV [.int (sn f), .str (kw ch), .int ch.num, .str (one z)] (some 2) none))) D2 (.lst (ys ++ [.ref t3]))) := (TK.of s123).trans (TK.upd _ (NoT.lst d1'))
          refine (d2.mono fun a d e => CAt.keep tk e).snoc ⟨z, hz1, fun n e h => ?_, ?_⟩
          · cases b with
            | true => exact (Ch.put.inj h).2.symm
            | false => cases h
          · rw [upd_ne t3D, upd_same]
            cases b <;> rfl
        · rcases List.mem_append.mp h' with w | w
          · exact d4 ch' w
          · rw [List.mem_singleton.mp w]
            cases b <;> rfl
        · rw [upd_ne (ne_of_none e hD2)]
          exact s123 _ _ (sd _ _ e)
      · rintro Hd ⟨ys, chs, d1, d2, d3, d4, sd⟩
        have hDd := sd _ _ hDc
        have tk : TK Hd (upd Hd D (.lst ([V.ref (la true), V.ref (la false)].take i ++ [.ref D2]))) := TK.upd _ (NoT.lst hDd)
        refine ⟨_, hDd, ?_, updB la f D2, updB Pl' f chs, ?_, fun a u e => ?_, fun f' hf' => ?_⟩
        · rw [List.length_take]
          exact small' (by show min i 2 + 1 ≤ 1000; omega)
        · rw [upd_same]
          rcases hf with ⟨rfl, rfl⟩ | ⟨rfl, rfl⟩ <;> rfl
        · rw [upd_ne (ne_of_none e hD)]
          exact sd _ _ (sc _ _ e)
        · rcases bool_or f f' with e | e
          · rw [e]
            simp only [updB_same]
            exact ⟨⟨ys, (upd_ne hDD.symm).trans d1, d2.mono fun a d e => CAt.keep tk e⟩, by rw [d3, x2.len], d4, hDD.symm⟩
          · rw [e] at hf' ⊢
            simp only [updB_not]
            have : (if (!f) = true then 1 else 2) ≤ i := by
              rcases hf with ⟨rfl, rfl⟩ | ⟨rfl, rfl⟩
              · exact absurd hf' (by decide)
              · decide
            obtain ⟨⟨zs, z1, z2⟩, z3, z4, z5⟩ := hdone (!f) this
            exact ⟨⟨zs, (upd_ne z5).trans (sd _ _ z1), z2.mono fun a d e => CAt.keep ((TK.of sd).trans tk) e⟩, z3, z4, z5⟩
    · rintro Hc ⟨la, Pl', hDc, sc, hdone⟩
      have all : ∀ f : Bool, (if f = true then 1 else 2) ≤ 2 := fun f => by cases f <;> decide
      exact q D Pl' Hc sc ⟨la, hDc, fun f => (hdone f (all f)).1⟩ (fun f => (hdone f (all f)).2.1) (fun f => (hdone f (all f)).2.2.1)
end
end Far
end

section
set_option linter.all false
set_option maxRecDepth 100000
set_option maxHeartbeats 4000000
namespace Far
open PySem PySem.Spec PyProof.Rows L2 FarN FarR
theorem hu4' {A : Around} {k : Nat} (hr : Room k A) : A.units + 4 < cLine := by have := hr.units; omega
theorem Row.imp {α : Type} {R R' : Hp → Addr → α → Prop} {H H' : Hp} (k : ∀ a d, R H a d → R' H' a d) : ∀ {xs : List V} {ds : List α}, Row R H xs ds → Row R' H' xs ds
  | [], [], _ => trivial
  | .ref a :: xs, d :: ds, h => ⟨k _ _ h.1, Row.imp k h.2⟩
theorem Row.append {α : Type} {R : Hp → Addr → α → Prop} {H : Hp} : ∀ {xs ys : List V} {as bs : List α}, Row R H xs as → Row R H ys bs → Row R H (xs ++ ys) (as ++ bs)
  | [], _, [], _, _, h => h
  | .ref a :: xs, _, d :: ds, _, h, k => ⟨h.1, Row.append h.2 k⟩
def AnyAt (H : Hp) (c : Addr) (ch : Ch) : Prop := ∃ f, ChAt f H c ch
theorem signs_low {c : Nat} (h : isSg c) : c < 128 := by
  have : ∀ d ∈ signs.cps.toList, d < 128 := by decide +kernel
  exact this c h
theorem dp_strs {K : PySem.W.Frag} {H : Hp} (xs : List Str) : DpAll K H (xs.map V.str) (xs.map PyData.str) := by
  induction xs with
  | nil => exact .nil
  | cons x xs ih => exact .cons (.str _) ih
theorem depth_strs (xs : List Str) : PyData.depthAll (xs.map PyData.str) = 0 := by
  induction xs with
  | nil => rfl
  | cons x xs ih =>
    show max 0 (PyData.depthAll (xs.map PyData.str)) = 0
    rw [ih]; rfl
theorem lay_strs (xs : List Str) (h : ∀ x ∈ xs, (PyData.str x).canLay0 = true) : (PyData.list (xs.map PyData.str)).canLay0 = true := by
  show PyData.canLayAll0 (xs.map PyData.str) = true
  induction xs with
  | nil => rfl
  | cons x xs ih =>
    show (PyData.canLay0 (.str x) && PyData.canLayAll0 (xs.map PyData.str)) = true
    rw [h x (List.mem_cons_self ..), ih fun y hy => h y (List.mem_cons_of_mem _ hy)]
    rfl
theorem one_lay {c : Nat} (h : c < 128) : (PyData.str (one c)).canLay0 = true := by
  show (one c).cps.all (· < 0x110000) = true
  simp [one]
  omega
theorem shaped_strs (xs : List Str) (h : ∀ x ∈ xs, (PyData.str x).canLay0 = true) : SeqAt.shaped (.list (xs.map PyData.str)) = true := by
  unfold SeqAt.shaped
  rw [lay_strs xs h]
  show decide (PyData.depthAll (xs.map PyData.str) + 1 ≤ 64) = true
  rw [depth_strs]
  rfl
theorem srt_mem {xs : List Str} {x : Str} (h : x ∈ srt xs) : x ∈ xs := (List.mergeSort_perm xs leS).mem_iff.mp h
section
variable {P : Program} {w : World} {K : PySem.W.Frag} {mg : Str → Option Value} {base : Heap} {CS CY PA : Addr}
/-! ### _law_puts_right(line, plans), puts alone -/
def spPuts : Sp := fun vs H Q _ => ∃ (l : List Nat) (p : Addr) (Pl : Bool → List Ch), vs = [.str (ln l), .ref p] ∧ l.length ≤ 100 ∧ (∀ c ∈ l, isSg c) ∧ PlansAt H p Pl ∧ (∀ f, (Pl f).length ≤ 3) ∧ (∀ f, ∀ ch ∈ Pl f, ch.isPut = true) ∧ ∀ H', Same H H' → Q (.bl true) H'
theorem scPuts : FnScope ["line", "plans", "put", "shown", "many", "choice"] ["line", "plans"] (defScope sPuts) := ⟨rfl, rfl, rfl, by decide +kernel, rfl, by decide +kernel, by decide +kernel⟩
theorem ok_puts {f : Addr} {fd : FuncData} (F : Fun K "_law_puts_right" "_law_puts_right" sPuts f fd) (T : Txt K w mg CS CY PA) (GR : FnG P w K mg base 9 "runs_of" ["line", "plans"] spRuns) (GH : FnG P w K mg base 1 "_law_holds" ["line", "part"] spHolds) :
    FnOk P w K mg base CX0 10 f fd ["line", "plans"] spPuts := by
  refine F.ok scPuts (fun vs H Q E h => ?_) (fun cdv A outer s H vs Q E hr h => ?_)
  · obtain ⟨l, p, Pl, rfl, _⟩ := h
    rfl
  · obtain ⟨l, p, Pl, rfl, hl, hls, hp, hn3, hput, q⟩ := h
    have nd := scPuts.nd
    have hlz : (ln l).length ≤ sizeLine := by rw [ln_length]; exact small' (by omega)
    refine ⟨_, pss_cons (ps_set (i := 2) nd rfl (Or.inl rfl) (pe_callB (cr_sortL (hu4' hr)) (by rfl) T.sorted (by decide +kernel) (pa_cons
        (pe_lc (own := [("choice", 5)]) (g := gName 5) (tt := tYes) (te := tOp (rIxT K) (tVar 5) (tC (.int 3))) (by rfl) nd (pi_list (pe_op op_cat (pe_ix ix_list (pv 1) pe_int (fun _ _ => rfl)) (pe_ix ix_list (pv 1) pe_int (fun _ _ => rfl)))) (blkOk_by (N := ["line", "plans", "put", "shown", "many", "choice"]) (sc := defScope sPuts) (by decide +kernel)) (fun _ _ _ _ _ => pg_name (i := 5) nd rfl (Or.inl rfl)) (fun _ _ _ _ _ => pts_nil)
          (fun _ _ _ _ _ => pe_ix ix_tup (pv 5) pe_int (fun _ _ => rfl))) pa_nil)))
      (pss_cons (ps_for PassesOwn.never rfl (pi_list (pe_ix ix_tup (pcall GR hr (by decide) rfl (pa_cons (pv 0) (pa_cons (pv 1) pa_nil))) pe_int (fun _ _ => rfl))) (pg_tup (by rfl) (pgs_cons (pg_name (i := 3) nd rfl (Or.inl rfl)) (pgs_cons (pg_name (i := 4) nd rfl (Or.inl rfl)) pgs_nil)))
        (pss_one (ps_if (PW.pt (pw_or (pt_cmpR (op_neD hr.units) (pe_callB (cr_sortTxt rfl (hu4' hr)) (by rfl) T.sorted (by decide +kernel) (pa_cons (pv 3) pa_nil))
            (pe_callB (cr_sortL (hu4' hr)) (by rfl) T.sorted (by decide +kernel) (pa_cons (pe_op op_cat (pe_callTy (cr_listTxt rfl) (by rfl) T.list (by decide +kernel) (pa_cons (pv 0) pa_nil)) (pv 2)) pa_nil)) (nomark _))
          (pw_or1 (pt_not (pt_val (pcall GH hr (by decide) rfl (pa_cons (pv 3) (pa_cons (pv 0) pa_nil)))))))) (pss_one (ps_ret pe_bl)) pss_nil)))
      (pss_one (ps_ret pe_bl))), ?_⟩
    obtain ⟨g, hp0, hg⟩ := id hp
    obtain ⟨xs0, x01, x02⟩ := hg true
    obtain ⟨xs1, x11, x12⟩ := hg false
    have n0 := hn3 true
    have n1 := hn3 false
    have l0 := x02.len
    have l1 := x12.len
    refine ⟨_, rfl, _, _, _, _, rfl, rfl, SqL.of hp0, at_of (j := 0) rfl rfl, _, rfl, _, _, _, _, rfl, rfl, SqL.of hp0, at_of (j := 1) rfl rfl, g true, g false, xs0, xs1, rfl, rfl, x01, x11, small' (by omega), fun cx hcx => ?_⟩
    have sC := Same.new (.lst (xs0 ++ xs1)) hcx
    refine ⟨cx, rfl, ⟨_, SqL.of upd_same⟩, fun D hD => ?_⟩
    have row : Row AnyAt H (xs0 ++ xs1) (Pl true ++ Pl false) := (x02.imp fun a d e => ⟨true, e⟩).append (x12.imp fun a d e => ⟨false, e⟩)
    have allp : ∀ ch ∈ Pl true ++ Pl false, ch.isPut = true := fun ch h => by
      rcases List.mem_append.mp h with h | h
      · exact hput _ _ h
      · exact hput _ _ h
    generalize hall : Pl true ++ Pl false = all at row allp
    have lall := row.len
    have hne : D ≠ cx := (ne_of_none upd_same hD).symm
    refine lc_list (xs := xs0 ++ xs1) (fun i Hc => ∃ zs : List Nat, zs = signsOf (all.take i) ∧ Hc D = some (.lst ((zs.map one).map V.str)) ∧ Same H Hc ∧ Hc cx = some (.lst (xs0 ++ xs1)) ∧ zs.length = i ∧ ∀ c ∈ zs, isSg c)
      ⟨[], rfl, upd_same, sC.trans (Same.new _ hD), (Same.new _ hD) _ _ upd_same, rfl, fun c h => (nomatch h)⟩ ?_ ?_ ?_
    · rintro i Hc _ ⟨_, _, _, _, h5, _⟩
      exact SqL.of h5
    · rintro i y Hc hy ⟨zs, rfl, d1, sc, d3, d4, d5⟩
      have hi : i < (xs0 ++ xs1).length := (List.getElem?_eq_some_iff.mp hy).1
      obtain ⟨c, ch, rfl, hch, f, z, hz1, hz2, hc⟩ := row.at hy
      have hb := allp ch (List.mem_of_getElem? hch)
      obtain ⟨n, e, rfl⟩ : ∃ n e, ch = .put n e := by
        cases ch with
        | put n e => exact ⟨n, e, rfl⟩
        | cut n => cases hb
      have ez := hz2 n e rfl
      subst ez
      refine ⟨rfl, ?_⟩
      refine ⟨_, rfl, _, _, _, _, rfl, rfl, SqT.of (sc _ _ hc), at_of (j := 3) rfl rfl, ?_⟩
      have hlen : (xs0 ++ xs1).length ≤ 6 := by rw [List.length_append]; omega
      refine ⟨_, d1, (by rw [List.length_map, List.length_map]; exact small (by omega)), signsOf (all.take (i + 1)), rfl, ?_, fun a u h => ?_, ?_, ?_, ?_⟩
      · rw [upd_same, take_snoc hch, signsOf_append, List.map_append, List.map_append]
        rfl
      · rw [upd_ne (ne_of_none h (none_of sC hD))]
        exact sc _ _ h
      · rw [upd_ne hne.symm]
        exact d3
      · rw [take_snoc hch, signsOf_append, List.length_append, d4]
        rfl
      · rw [take_snoc hch, signsOf_append]
        intro c' hc'
        rcases List.mem_append.mp hc' with h | h
        · exact d5 c' h
        · have : c' = e := by simpa [signsOf, Ch.signs] using h
          rw [this]; exact hz1
    · rintro Hc ⟨zs, hzs, d1, sc, d3, d4, d5⟩
      rw [lall, List.take_length] at hzs
      have zl : zs.length ≤ 6 := by rw [d4, List.length_append]; omega
      refine ⟨D, zs.map one, rfl, SqL.of d1, fun put hput' => ?_⟩
      have sP := Same.new (.lst ((srt (zs.map one)).map V.str)) hput'
      have putH : upd Hc put (.lst ((srt (zs.map one)).map V.str)) put = some (.lst ((srt (zs.map one)).map V.str)) := upd_same
      generalize upd Hc put (.lst ((srt (zs.map one)).map V.str)) = H2 at sP putH ⊢
      have s2 := sc.trans sP
      refine ⟨_, rfl, _, rfl, l, p, Pl, rfl, hl, hp.keep (TL.of s2), hn3, fun r a tot H3 s3 hr3 ⟨ws, w1, w2, w3, w4, w5⟩ => ?_⟩
      refine ⟨_, _, _, _, rfl, rfl, SqT.of hr3, at_of (j := 1) rfl rfl, a, rfl, ⟨_, SqL.of w1⟩, ?_⟩
      refine for_list (xs := ws.map fun z => V.ref z.1) (fun i σ H4 => ∃ x3 x4 x5 : Option V, σ = [some (.str (ln l)), some (.ref p), some (.ref put), x3, x4, x5] ∧ Same H3 H4) ⟨_, _, _, rfl, Same.refl _⟩ ?_ ?_ ?_
      · rintro i σ H4 _ ⟨_, _, _, _, s4⟩
        exact SqL.of (s4 _ _ w1)
      · rintro i v σ H4 hv ⟨_, _, _, rfl, s4⟩
        rw [List.getElem?_map] at hv
        cases hw : ws[i]? with
        | none => rw [hw] at hv; cases hv
        | some z =>
          rw [hw] at hv
          obtain rfl : V.ref z.1 = v := Option.some.inj hv
          have hm := List.mem_of_getElem? hw
          obtain ⟨T, eT, hT⟩ := w5 z hm
          have hzt := s4 _ _ (w2 z hm)
          rw [eT] at hzt
          obtain ⟨perm, sub⟩ := hT.puts hput
          have tsg : ∀ c ∈ T, isSg c := fun c hc => by
            rcases List.mem_append.mp (perm.mem_iff.mp hc) with h | h
            · exact hls c h
            · rw [hall, ← hzs] at h
              exact d5 c h
          have lenT : T.length ≤ 200 := by
            rw [perm.length_eq, List.length_append, hall, ← hzs]
            omega
          refine ⟨_, _, rfl, SqT.of hzt, rfl, _, _, rfl, _, _, rfl, rfl, ?_⟩
          have hTz : (ln T).length ≤ sizeLine := by rw [ln_length]; exact small' (by omega)
          refine ⟨_, rfl, ln T, rfl, hTz, fun a1 h1 => ?_⟩
          have t1 := Same.new (.lst ((srt (chs (ln T))).map V.str)) h1
          refine ⟨_, rfl, ln l, rfl, hlz, fun a2 h2 => ?_⟩
          have t2 := Same.new (.lst ((chs (ln l)).map V.str)) h2
          have put4 := s4 _ _ (s3 _ _ putH)
          refine ⟨_, rfl, a2, put, _, _, rfl, rfl, upd_same, t2 _ _ (t1 _ _ put4), ?_, fun a3 h3 => ?_⟩
          · rw [List.length_map, List.length_map, srt_length, List.length_map]
            exact small' (by unfold chs; rw [List.length_map, ln_cps]; omega)
          have t3 := Same.new (.lst ((chs (ln l)).map V.str ++ (srt (zs.map one)).map V.str)) h3
          have e3 : ((chs (ln l)).map V.str ++ (srt (zs.map one)).map V.str) = (chs (ln l) ++ srt (zs.map one)).map V.str := by rw [List.map_append]
          refine ⟨a3, chs (ln l) ++ srt (zs.map one), rfl, SqL.of (by rw [upd_same, e3]), fun a4 h4 => ?_⟩
          have t4 := Same.new (.lst ((srt (chs (ln l) ++ srt (zs.map one))).map V.str)) h4
          have key : srt (chs (ln l) ++ srt (zs.map one)) = srt (chs (ln T)) := by
            refine srt_perm ?_
            unfold chs
            rw [ln_cps, ln_cps]
            refine ((List.mergeSort_perm (zs.map one) leS).append_left (l.map one)).trans ?_
            rw [← List.map_append]
            refine List.Perm.map one ?_
            rw [hzs, ← hall]
            exact perm.symm
          have lay : ∀ x ∈ srt (chs (ln T)), (PyData.str x).canLay0 = true := fun x hx => by
            have := srt_mem hx
            unfold chs at this
            rw [ln_cps] at this
            obtain ⟨c, hc, rfl⟩ := List.mem_map.mp this
            exact one_lay (signs_low (tsg c hc))
          have f1 := t4 _ _ (t3 _ _ (t2 _ _ (upd_same (H := H4) (a := a1) (o := .lst ((srt (chs (ln T))).map V.str)))))
          refine ⟨.list ((srt (chs (ln T))).map PyData.str), .list ((srt (chs (ln T))).map PyData.str), .lst (SqL.of f1) (dp_strs _), .lst (SqL.of (by rw [upd_same, key])) (dp_strs _), shaped_strs _ lay, shaped_strs _ lay, false, ?_, iteF ?_⟩
          · rw [SeqAt.eqv_refl _ (lay_strs _ lay)]
            rfl
          · refine ⟨_, rfl, _, rfl, T, l, rfl, sub, by omega, true, rfl, iteF ?_⟩
            exact ⟨_, _, _, rfl, (((s4.trans t1).trans t2).trans t3).trans t4⟩
      · rintro σ H4 ⟨_, _, _, rfl, s4⟩
        exact q H4 ((s2.trans s3).trans s4)
end
end Far
end

section
set_option linter.all false
set_option maxRecDepth 100000
set_option maxHeartbeats 4000000
namespace Far
open PySem PySem.Spec PyProof.Rows L2 FarN FarR
def rLenSeq (K : PySem.W.Frag) : List V → Hp → VK → Prop := fun xs H Q => ∃ p ys, xs = [.ref p] ∧ (SqL K H p ys ∨ SqT K H p ys) ∧ Q (.int ys.length) H
theorem cr_lenSeq {X : Cx} : CallR X (.builtin "len") (rLenSeq X.K) := call_len_seq
section
variable {P : Program} {w : World} {K : PySem.W.Frag} {mg : Str → Option Value} {base : Heap} {CS CY PA : Addr}
theorem lens_of {H : Hp} {p : Addr} {Pl : Bool → List Ch} (h : PlansAt H p Pl) (i : Nat) (x : V) (g : Bool → Addr) (e : H p = some (.lst [.ref (g true), .ref (g false)])) (hx : [V.ref (g true), V.ref (g false)][i]? = some x) :
    ∃ (f : Bool) (xs : List V), x = .ref (g f) ∧ (i = 0 ∧ f = true ∨ i = 1 ∧ f = false) ∧ H (g f) = some (.lst xs) ∧ xs.length = (Pl f).length ∧ Row (ChAt f) H xs (Pl f) := by
  obtain ⟨g', e', hg⟩ := h
  have eg : ∀ f, g' f = g f := by
    rw [e'] at e
    injection e with e
    injection e with e
    injection e with e1 e2
    injection e2 with e2 _
    intro f
    cases f
    · exact V.ref.inj e2
    · exact V.ref.inj e1
  have hi2 : i < 2 := (List.getElem?_eq_some_iff.mp hx).1
  obtain ⟨f, _, hf⟩ := sn_of hi2
  obtain ⟨xs, x1, x2⟩ := hg f
  rw [eg] at x1
  refine ⟨f, xs, ?_, hf, x1, x2.len, x2⟩
  rcases hf with ⟨rfl, rfl⟩ | ⟨rfl, rfl⟩ <;> exact (Option.some.inj hx).symm
/-! ### _law_cuts_right(line, plans), cuts alone -/
def spCuts : Sp := fun vs H Q _ => ∃ (l : List Nat) (p : Addr) (Pl : Bool → List Ch), vs = [.str (ln l), .ref p] ∧ l.length ≤ 100 ∧ PlansAt H p Pl ∧ (∀ f, (Pl f).length ≤ 3) ∧ (∀ f, ∀ ch ∈ Pl f, ch.isPut = false) ∧ ∀ H', Same H H' → Q (.bl true) H'
theorem scCuts : FnScope ["line", "plans", "many", "shown", "runs", "plan"] ["line", "plans"] (defScope sCuts) := ⟨rfl, rfl, rfl, by decide +kernel, rfl, by decide +kernel, by decide +kernel⟩
theorem ok_cuts {f : Addr} {fd : FuncData} (F : Fun K "_law_cuts_right" "_law_cuts_right" sCuts f fd) (T : Txt K w mg CS CY PA) (GR : FnG P w K mg base 9 "runs_of" ["line", "plans"] spRuns) (GH : FnG P w K mg base 1 "_law_holds" ["line", "part"] spHolds) :
    FnOk P w K mg base CX0 10 f fd ["line", "plans"] spCuts := by
  refine F.ok scCuts (fun vs H Q E h => ?_) (fun cdv A outer s H vs Q E hr h => ?_)
  · obtain ⟨l, p, Pl, rfl, _⟩ := h
    rfl
  · obtain ⟨l, p, Pl, rfl, hl, hp, hn3, hput, q⟩ := h
    have nd := scCuts.nd
    have hlz : (ln l).length ≤ sizeLine := by rw [ln_length]; exact small' (by omega)
    refine ⟨_, pss_cons (ps_setLc (i := 2) (own := [("plan", 5)]) (g := gName 5) (tt := tYes) rfl nd rfl rfl (sw_true rfl rfl rfl (by decide +kernel)) (pi_list (pv 1)) (blkOk_by (N := ["line", "plans", "many", "shown", "runs", "plan"]) (sc := defScope sCuts) (by decide +kernel)) (fun _ _ _ _ _ => pg_name (i := 5) nd rfl (Or.inl rfl)) (fun _ _ _ _ _ => pts_nil)
        (fun _ _ _ _ _ => pe_callB (id := "len") (r := rLenSeq K) cr_lenSeq (by rfl) T.len PySem.boot_len (pa_cons (pv 5) pa_nil)))
      (pss_cons (ps_for PassesOwn.never rfl (pi_list (pe_ix ix_tup (pcall GR hr (by decide) rfl (pa_cons (pv 0) (pa_cons (pv 1) pa_nil))) pe_int (fun _ _ => rfl))) (pg_tup (by rfl) (pgs_cons (pg_name (i := 3) nd rfl (Or.inl rfl)) (pgs_cons (pg_name (i := 4) nd rfl (Or.inl rfl)) pgs_nil)))
        (pss_cons (ps_if (pt_not (pt_val (pcall GH hr (by decide) rfl (pa_cons (pv 0) (pa_cons (pv 3) pa_nil))))) (pss_one (ps_ret pe_bl)) pss_nil)
        (pss_one (ps_if (pt_not (pt_chain op_le op_le (pe_callB (call_min2 rfl) (by rfl) T.min (by decide +kernel) (pa_cons (pe_callB call_len_str (by rfl) T.len PySem.boot_len (pa_cons (pv 0) pa_nil)) (pa_cons (pe_callB (cr_max rfl) (by rfl) T.max (by decide +kernel) (pa_cons (pv 2) pa_nil)) pa_nil)))
            (pe_op op_sub (pe_callB call_len_str (by rfl) T.len PySem.boot_len (pa_cons (pv 0) pa_nil)) (pe_callB call_len_str (by rfl) T.len PySem.boot_len (pa_cons (pv 3) pa_nil)))
            (pe_callB (cr_sum rfl) (by rfl) T.sum (by decide +kernel) (pa_cons (pv 2) pa_nil)))) (pss_one (ps_ret pe_bl)) pss_nil))))
      (pss_one (ps_ret pe_bl))), ?_⟩
    obtain ⟨g, hp0, hg⟩ := id hp
    refine ⟨_, rfl, p, rfl, ⟨_, SqL.of hp0⟩, fun D hD => ?_⟩
    have sD := Same.new (.lst []) hD
    refine lc_list (xs := [.ref (g true), .ref (g false)]) (fun i Hc => Hc D = some (.lst (([((Pl true).length : Int), ((Pl false).length : Int)].take i).map V.int)) ∧ Same H Hc) ⟨upd_same, sD⟩ ?_ ?_ ?_
    · rintro i Hc _ ⟨_, sc⟩
      exact SqL.of (sc _ _ hp0)
    · rintro i x Hc hx ⟨d1, sc⟩
      obtain ⟨f, xs, rfl, hf, x1, x2, _⟩ := lens_of hp i x g hp0 hx
      refine ⟨rfl, ?_⟩
      refine ⟨_, rfl, g f, xs, rfl, .inl (SqL.of (sc _ _ x1)), _, d1, ?_, ?_, fun a u e => ?_⟩
      · rw [List.length_map, List.length_take]
        exact small (by show min i 2 ≤ 1000; omega)
      · rw [upd_same, x2]
        rcases hf with ⟨rfl, rfl⟩ | ⟨rfl, rfl⟩ <;> rfl
      · rw [upd_ne (ne_of_none e hD)]
        exact sc _ _ e
    · rintro Hc ⟨d1, sc⟩
      have d1 : Hc D = some (.lst ([((Pl true).length : Int), ((Pl false).length : Int)].map V.int)) := d1
      refine ⟨_, rfl, _, rfl, l, p, Pl, rfl, hl, hp.keep (TL.of sc), hn3, fun r a tot H3 s3 hr3 ⟨ws, w1, w2, w3, w4, w5⟩ => ?_⟩
      refine ⟨_, _, _, _, rfl, rfl, SqT.of hr3, at_of (j := 1) rfl rfl, a, rfl, ⟨_, SqL.of w1⟩, ?_⟩
      refine for_list (xs := ws.map fun z => V.ref z.1) (fun i σ H4 => ∃ x3 x4 x5 : Option V, σ = [some (.str (ln l)), some (.ref p), some (.ref D), x3, x4, x5] ∧ H3 = H4) ⟨_, _, _, rfl, rfl⟩ ?_ ?_ ?_
      · rintro i σ H4 _ ⟨_, _, _, _, rfl⟩
        exact SqL.of w1
      · rintro i v σ H4 hv ⟨_, _, _, rfl, rfl⟩
        rw [List.getElem?_map] at hv
        cases hw : ws[i]? with
        | none => rw [hw] at hv; cases hv
        | some z =>
          rw [hw] at hv
          obtain rfl : V.ref z.1 = v := Option.some.inj hv
          have hm := List.mem_of_getElem? hw
          obtain ⟨TT, eT, hT⟩ := w5 z hm
          have hzt := w2 z hm
          rw [eT] at hzt
          obtain ⟨sub, c1, c2⟩ := hT.cut hput
          have hTl := sub.length_le
          have hTz : (ln TT).length ≤ sizeLine := by rw [ln_length]; exact small' (by omega)
          refine ⟨_, _, rfl, SqT.of hzt, rfl, _, _, rfl, _, _, rfl, rfl, ?_⟩
          refine ⟨_, rfl, _, rfl, l, TT, rfl, sub, by omega, true, rfl, iteF ?_⟩
          refine ⟨_, rfl, _, rfl, hlz, _, rfl, D, _, rfl, SqL.of (s3 _ _ d1), by show 0 < 2; omega, fun m hm1 hm2 => ?_⟩
          refine ⟨_, _, rfl, _, rfl, _, rfl, hlz, _, rfl, _, rfl, hTz, _, _, rfl, rfl, _, _, rfl, rfl, _, rfl, ?_⟩
          have m1 := hm2 (Pl true).length (by simp)
          have m2 := hm2 (Pl false).length (by simp)
          have m3 : m = (Pl true).length ∨ m = (Pl false).length := by simpa using hm1
          have mx : (m : Int) = ((max (Pl true).length (Pl false).length : Nat) : Int) := by omega
          refine iteD ?_ ?_
          · rw [ln_length, ln_length, mx]
            split <;> omega
          · refine ⟨_, rfl, D, _, rfl, SqL.of (s3 _ _ d1), _, _, rfl, rfl, _, rfl, ?_⟩
            have e5 : ((((ln l).length : Nat) : Int) - (((ln TT).length : Nat) : Int)) ≤ [((Pl true).length : Int), ((Pl false).length : Int)].sum := by
              rw [ln_length, ln_length]
              simp only [List.sum_cons, List.sum_nil]
              omega
            rw [decide_eq_true e5]
            exact iteF ⟨_, _, _, rfl, rfl⟩
      · rintro σ H4 ⟨_, _, _, rfl, rfl⟩
        exact q H3 (sc.trans s3)
end
end Far
end

section
set_option linter.all false
set_option maxRecDepth 100000
set_option maxHeartbeats 4000000
namespace Far
open PySem PySem.Spec PyProof.Rows L2 FarN FarR
def rLe : R2 := rI0 fun i j => .bl (decide (i ≤ j))
def rLenTxt : List V → Hp → VK → Prop := fun xs H Q => ∃ z : Str, xs = [.str z] ∧ z.length ≤ sizeLine ∧ Q (.int z.length) H
section
variable {P : Program} {w : World} {K : PySem.W.Frag} {mg : Str → Option Value} {base : Heap} {CS CY PA : Addr}
/-! ### _law_both_right(line, plans) -/
def spBoth : Sp := fun vs H Q _ => ∃ (l : List Nat) (p : Addr) (Pl : Bool → List Ch), vs = [.str (ln l), .ref p] ∧ l.length ≤ 100 ∧ PlansAt H p Pl ∧ (∀ f, (Pl f).length ≤ 3) ∧ ∀ H', Same H H' → Q (.bl true) H'
theorem scBoth : FnScope ["line", "plans", "puts", "cuts", "most", "least", "plan", "choice", "shown", "runs"] ["line", "plans"] (defScope sBoth) := ⟨rfl, rfl, rfl, by decide +kernel, rfl, by decide +kernel, by decide +kernel⟩
theorem ok_both {f : Addr} {fd : FuncData} (F : Fun K "_law_both_right" "_law_both_right" sBoth f fd) (T : Txt K w mg CS CY PA) (GR : FnG P w K mg base 9 "runs_of" ["line", "plans"] spRuns) :
    FnOk P w K mg base CX0 10 f fd ["line", "plans"] spBoth := by
  refine F.ok scBoth (fun vs H Q E h => ?_) (fun cdv A outer s H vs Q E hr h => ?_)
  · obtain ⟨l, p, Pl, rfl, _⟩ := h
    rfl
  · obtain ⟨l, p, Pl, rfl, hl, hp, hn3, q⟩ := h
    have nd := scBoth.nd
    have hlz : (ln l).length ≤ sizeLine := by rw [ln_length]; exact small' (by omega)
    refine ⟨_, pss_cons (ps_setLc (i := 2) (own := [("plan", 6)]) (g := gName 6) (tt := tYes) (te := tCB (rLenSeq K) (tCons (tLc (iList K (tVar 6)) (gName 7) (tTest (tOp rEq (tOp (rIxT K) (tVar 7) (tC (.int 1))) (tC (.str "put")))) (tVar 7) [7]) tNil)) rfl nd rfl rfl (sw_true rfl rfl rfl (by decide +kernel)) (pi_list (pv 1)) (blkOk_by (N := ["line", "plans", "puts", "cuts", "most", "least", "plan", "choice", "shown", "runs"]) (sc := defScope sBoth) (by decide +kernel)) (fun _ _ _ _ _ => pg_name (i := 6) nd rfl (Or.inl rfl)) (fun _ _ _ _ _ => pts_nil)
        (fun _ _ _ _ _ => pe_callB (id := "len") (r := rLenSeq K) cr_lenSeq (by rfl) T.len PySem.boot_len (pa_cons
          (pe_lc (own := [("choice", 7)]) (g := gName 7) (by rfl) nd (pi_list (pv 6)) (blkOk_by (N := ["line", "plans", "puts", "cuts", "most", "least", "plan", "choice", "shown", "runs"]) (sc := { kind := .function, names := [(".0", .local), ("plan", .local), ("len", .globalImplicit)], isGenerator := false, isCoroutine := false }) (by decide +kernel)) (fun _ _ _ _ _ => pg_name (i := 7) nd rfl (Or.inl rfl))
            (fun _ _ _ _ _ => pts_one (pt_cmpR op_eq (pe_ix ix_tup (pv 7) pe_int (fun _ _ => rfl)) pe_str (nomark _))) (fun _ _ _ _ _ => pv 7)) pa_nil)))
      (pss_cons (ps_setLc (i := 3) (own := [("plan", 6)]) (g := gName 6) (tt := tYes) rfl nd rfl rfl (sw_true rfl rfl rfl (by decide +kernel)) (pi_list (pv 1)) (blkOk_by (N := ["line", "plans", "puts", "cuts", "most", "least", "plan", "choice", "shown", "runs"]) (sc := defScope sBoth) (by decide +kernel)) (fun _ _ _ _ _ => pg_name (i := 6) nd rfl (Or.inl rfl)) (fun _ _ _ _ _ => pts_nil)
        (fun _ _ _ _ _ => pe_callB (id := "len") (r := rLenSeq K) cr_lenSeq (by rfl) T.len PySem.boot_len (pa_cons (pv 6) pa_nil)))
      (pss_cons (ps_set (i := 4) nd rfl (Or.inr rfl) (pe_op op_add (pe_callB call_len_str (by rfl) T.len PySem.boot_len (pa_cons (pv 0) pa_nil)) (pe_callB (cr_sum rfl) (by rfl) T.sum (by decide +kernel) (pa_cons (pv 2) pa_nil))))
      (pss_cons (ps_set (i := 5) nd rfl (Or.inr rfl) (pe_op op_sub (pe_op op_add (pv 4) (pe_callB (cr_sum rfl) (by rfl) T.sum (by decide +kernel) (pa_cons (pv 2) pa_nil))) (pe_callB (cr_sum rfl) (by rfl) T.sum (by decide +kernel) (pa_cons (pv 3) pa_nil))))
      (pss_one (ps_ret (pe_cmpR (op_eqD hr.units) (pe_lc (own := [("shown", 8), ("runs", 9)]) (g := gTup K 2 (gCons (gName 8) (gCons (gName 9) gNil))) (tt := tNot (tTest (tChain rLe rLe (tVar 5) (tCB rLenTxt (tCons (tVar 8) tNil)) (tVar 4)))) (te := tVar 8) (by rfl) nd
          (pi_list (pe_ix ix_tup (pcall GR hr (by decide) rfl (pa_cons (pv 0) (pa_cons (pv 1) pa_nil))) pe_int (fun _ _ => rfl))) (blkOk_by (N := ["line", "plans", "puts", "cuts", "most", "least", "plan", "choice", "shown", "runs"]) (sc := defScope sBoth) (by decide +kernel))
          (fun _ _ _ _ _ => pg_tup (by rfl) (pgs_cons (pg_name (i := 8) nd rfl (Or.inl rfl)) (pgs_cons (pg_name (i := 9) nd rfl (Or.inl rfl)) pgs_nil)))
          (fun _ _ _ _ _ => pts_one (pt_not (pt_chain op_le op_le (pv 5) (pe_callB (id := "len") (r := rLenTxt) call_len_str (by rfl) T.len PySem.boot_len (pa_cons (pv 8) pa_nil)) (pv 4)))) (fun _ _ _ _ _ => pv 8)) (pe_lst pa_nil) (nomark _))))))), ?_⟩
    obtain ⟨g, hp0, hg⟩ := id hp
    refine ⟨_, rfl, p, rfl, ⟨_, SqL.of hp0⟩, fun D hD => ?_⟩
    have sD := Same.new (.lst []) hD
    refine lc_list (xs := [.ref (g true), .ref (g false)]) (fun i Hc => Hc D = some (.lst (([(nputs (Pl true) : Int), (nputs (Pl false) : Int)].take i).map V.int)) ∧ Same H Hc) ⟨upd_same, sD⟩ ?_ ?_ ?_
    · rintro i Hc _ ⟨_, sc⟩
      exact SqL.of (sc _ _ hp0)
    · rintro i x Hc hx ⟨d1, sc⟩
      obtain ⟨f, xs, rfl, hf, x1, x2, row⟩ := lens_of hp i x g hp0 hx
      have n3 := hn3 f
      refine ⟨rfl, ?_⟩
      refine ⟨_, rfl, g f, rfl, ⟨_, SqL.of (sc _ _ x1)⟩, fun D2 hD2 => ?_⟩
      refine lc_list (xs := xs) (fun j Hd => ∃ ys : List V, Hd D2 = some (.lst ys) ∧ Same Hc Hd ∧ ys.length = nputs ((Pl f).take j) ∧ ys.length ≤ j) ⟨[], upd_same, Same.new _ hD2, rfl, Nat.le_refl _⟩ ?_ ?_ ?_
      · rintro j Hd _ ⟨_, _, sd, _⟩
        exact SqL.of (sd _ _ (sc _ _ x1))
      · rintro j y Hd hy ⟨ys, e1, sd, e2, e3⟩
        have hj : j < xs.length := (List.getElem?_eq_some_iff.mp hy).1
        obtain ⟨c, ch, rfl, hch, z, hz1, hz2, hc⟩ := row.at hy
        have hcd := sd _ _ (sc _ _ hc)
        refine ⟨rfl, ?_⟩
        refine ⟨_, rfl, _, _, _, _, rfl, rfl, SqT.of hcd, at_of (j := 1) rfl rfl, rfl, ?_⟩
        rw [take_snoc hch, nputs_append]
        cases ch with
        | put n e =>
          refine ⟨true, by rw [kw_put]; decide +kernel, ?_⟩
          refine ⟨_, rfl, ys, e1, small (by omega), _, upd_same, fun a u h => ?_, ?_, ?_⟩
          · rw [upd_ne (ne_of_none h hD2)]
            exact sd _ _ h
          · rw [List.length_append, e2]
            rfl
          · rw [List.length_append]
            show _ + 1 ≤ _
            omega
        | cut n =>
          refine ⟨false, by rw [kw_cut]; decide +kernel, ?_⟩
          exact ⟨ys, e1, sd, e2, by omega⟩
      · rintro Hd ⟨ys, e1, sd, e2, e3⟩
        rw [x2, List.take_length] at e2
        refine ⟨D2, ys, rfl, .inl (SqL.of e1), _, sd _ _ d1, ?_, ?_, fun a u e => ?_⟩
        · rw [List.length_map, List.length_take]
          exact small (by show min i 2 ≤ 1000; omega)
        · rw [upd_same, e2]
          rcases hf with ⟨rfl, rfl⟩ | ⟨rfl, rfl⟩ <;> rfl
        · rw [upd_ne (ne_of_none e hD)]
          exact sd _ _ (sc _ _ e)
    · rintro Hc ⟨d1, sc⟩
      have d1 : Hc D = some (.lst ([(nputs (Pl true) : Int), (nputs (Pl false) : Int)].map V.int)) := d1
      refine ⟨_, rfl, p, rfl, ⟨_, SqL.of (sc _ _ hp0)⟩, fun D3 hD3 => ?_⟩
      refine lc_list (xs := [.ref (g true), .ref (g false)]) (fun i Hd => Hd D3 = some (.lst (([((Pl true).length : Int), ((Pl false).length : Int)].take i).map V.int)) ∧ Same Hc Hd) ⟨upd_same, Same.new _ hD3⟩ ?_ ?_ ?_
      · rintro i Hd _ ⟨_, sd⟩
        exact SqL.of (sd _ _ (sc _ _ hp0))
      · rintro i x Hd hx ⟨e1, sd⟩
        obtain ⟨f, xs, rfl, hf, x1, x2, _⟩ := lens_of hp i x g hp0 hx
        refine ⟨rfl, ?_⟩
        refine ⟨_, rfl, g f, xs, rfl, .inl (SqL.of (sd _ _ (sc _ _ x1))), _, e1, ?_, ?_, fun a u e => ?_⟩
        · rw [List.length_map, List.length_take]
          exact small (by show min i 2 ≤ 1000; omega)
        · rw [upd_same, x2]
          rcases hf with ⟨rfl, rfl⟩ | ⟨rfl, rfl⟩ <;> rfl
        · rw [upd_ne (ne_of_none e hD3)]
          exact sd _ _ e
      · rintro Hd ⟨e1, sd⟩
        have e1 : Hd D3 = some (.lst ([((Pl true).length : Int), ((Pl false).length : Int)].map V.int)) := e1
        have d2 := sd _ _ d1
        refine ⟨_, rfl, _, rfl, hlz, _, rfl, D, _, rfl, SqL.of d2, _, _, rfl, rfl, ?_⟩
        refine ⟨_, rfl, _, rfl, D, _, rfl, SqL.of d2, _, _, rfl, rfl, _, rfl, D3, _, rfl, SqL.of e1, _, _, rfl, rfl, ?_⟩
        have s2 := sc.trans sd
        refine ⟨_, rfl, _, rfl, l, p, Pl, rfl, hl, hp.keep (TL.of s2), hn3, fun r a tot H3 s3 hr3 ⟨ws, w1, w2, w3, w4, w5⟩ => ?_⟩
        refine ⟨_, _, _, _, rfl, rfl, SqT.of hr3, at_of (j := 1) rfl rfl, a, rfl, ⟨_, SqL.of w1⟩, fun D4 hD4 => ?_⟩
        refine lc_list (xs := ws.map fun z => V.ref z.1) (fun i H4 => H4 D4 = some (.lst []) ∧ Same H3 H4) ⟨upd_same, Same.new _ hD4⟩ ?_ ?_ ?_
        · rintro i H4 _ ⟨_, s4⟩
          exact SqL.of (s4 _ _ w1)
        · rintro i v H4 hv ⟨h4, s4⟩
          rw [List.getElem?_map] at hv
          cases hw : ws[i]? with
          | none => rw [hw] at hv; cases hv
          | some z =>
            rw [hw] at hv
            obtain rfl : V.ref z.1 = v := Option.some.inj hv
            have hm := List.mem_of_getElem? hw
            obtain ⟨TT, eT, hT⟩ := w5 z hm
            have hzt := s4 _ _ (w2 z hm)
            rw [eT] at hzt
            obtain ⟨c1, c2⟩ := hT.both
            have hnp0 := nputs_le (Pl true)
            have hnp1 := nputs_le (Pl false)
            have n0 := hn3 true
            have n1 := hn3 false
            have hTz : (ln TT).length ≤ sizeLine := by rw [ln_length]; exact small' (by omega)
            refine ⟨_, _, rfl, SqT.of hzt, rfl, _, _, rfl, _, _, rfl, rfl, ?_⟩
            refine ⟨rfl, ?_⟩
            refine ⟨_, rfl, _, rfl, _, rfl, hTz, _, _, rfl, rfl, _, rfl, iteD ?_ ?_⟩
            · rw [ln_length, ln_length]
              simp only [List.sum_cons, List.sum_nil]
              omega
            · refine ⟨_, rfl, _, _, rfl, rfl, true, ?_, ?_⟩
              · rw [ln_length, ln_length]
                simp only [List.sum_cons, List.sum_nil]
                exact congrArg V.bl (decide_eq_true (by omega))
              · exact ⟨h4, s4⟩
        · rintro H4 ⟨h4, s4⟩
          refine ⟨(by show 0 ≤ sizeLine; decide), fun e5 he5 => ?_⟩
          have s5 := Same.new (.lst []) he5
          refine ⟨.list [], .list [], .lst (SqL.of (s5 _ _ h4)) .nil, .lst (SqL.of upd_same) .nil, rfl, rfl, ?_⟩
          exact q _ (((s2.trans s3).trans s4).trans s5)
end
end Far
end

section
set_option linter.all false
set_option maxRecDepth 100000
set_option maxHeartbeats 4000000
namespace Far
open PySem PySem.Spec PyProof.Rows L2 FarN FarR
theorem of_sn {r : Nat} (h : (r : Int) < 2) : ∃ f : Bool, (r : Int) = sn f ∧ (r = 0 ∧ f = true ∨ r = 1 ∧ f = false) := by
  have : r = 0 ∨ r = 1 := by omega
  rcases this with rfl | rfl
  · exact ⟨true, rfl, .inl ⟨rfl, rfl⟩⟩
  · exact ⟨false, rfl, .inr ⟨rfl, rfl⟩⟩
section
variable {P : Program} {w : World} {K : PySem.W.Frag} {mg : Str → Option Value} {base : Heap} {CS CY PA : Addr}
/-! ### _law_alone_right(pot, line, plan) -/
def spAlone : Sp := fun vs H Q _ => ∃ (p pl : Addr) (l : List Nat) (f0 : Bool) (xs : List V) (chs : List Ch), vs = [.ref p, .str (ln l), .ref pl] ∧ PotAt H p ∧ l.length ≤ 100 ∧ pl ≠ p ∧ H pl = some (.lst xs) ∧ Row (ChAt f0) H xs chs ∧ chs.length ≤ 3 ∧
  ∀ H', Keep p p H H' → PotAt H' p → Q (.bl true) H'
theorem scAlone : FnScope ["pot", "line", "plan", "seat", "choice", "choices", "plans", "yard", "ends"] ["pot", "line", "plan"] (defScope sAlone) := ⟨rfl, rfl, rfl, by decide +kernel, rfl, by decide +kernel, by decide +kernel⟩
theorem ok_alone {f : Addr} {fd : FuncData} (F : Fun K "_law_alone_right" "_law_alone_right" sAlone f fd) (T : Txt K w mg CS CY PA) (GT : FnG P w K mg base 2 "_law_take" ["pot", "many"] spTake) (GR : FnG P w K mg base 9 "runs_of" ["line", "plans"] spRuns)
    (GY : MkG P w K mg base CY 3 ["self", "line"] (spYardInit CY CS)) (GC : MtG P w K mg base CY 7 "choose" ["self", "choice"] (spChoose CY CS)) (GS : MtG P w K mg base CY 3 "shown_at" ["self", "seat"] (spShownAt CY CS)) :
    FnOk P w K mg base CX0 10 f fd ["pot", "line", "plan"] spAlone := by
  refine F.ok scAlone (fun vs H Q E h => ?_) (fun cdv A outer s H vs Q E hr h => ?_)
  · obtain ⟨p, pl, l, f0, xs, chs, rfl, _⟩ := h
    rfl
  · obtain ⟨p, pl, l, f0, xs, chs, rfl, hpt, hl, hplp, hpl, row, hn3, q⟩ := h
    have nd := scAlone.nd
    refine ⟨_, pss_cons (ps_set (i := 3) nd rfl (Or.inr rfl) (pcall GT hr (by decide) rfl (pa_cons (pv 0) (pa_cons pe_int pa_nil))))
      (pss_cons (ps_setLc (i := 5) (own := [("choice", 4)]) (g := gName 4) (tt := tYes) (te := tOp (rCatT K) (tTup (tCons (tVar 3) tNil)) (tSl (rSlT K) (tVar 4) (tPart (tC (.int 1))) tNoPart)) rfl nd rfl rfl (sw_true rfl rfl rfl (by decide +kernel)) (pi_list (pv 2)) (blkOk_by (N := ["pot", "line", "plan", "seat", "choice", "choices", "plans", "yard", "ends"]) (sc := defScope sAlone) (by decide +kernel)) (fun _ _ _ _ _ => pg_name (i := 4) nd rfl (Or.inl rfl)) (fun _ _ _ _ _ => pts_nil)
        (fun _ _ _ _ _ => pe_op op_catT (pe_tup (pa_cons (pv 3) pa_nil)) (pe_slice sl_tup (pv 4) (po_some pe_int) po_none)))
      (pss_cons (ps_set (i := 6) nd rfl (Or.inl rfl) (pe_lst (pa_cons (pe_lst pa_nil) (pa_cons (pe_lst pa_nil) pa_nil))))
      (pss_cons (ps_asg (pv 5) (pg_sub (pv 6) (pv 3) set_list))
      (pss_cons (ps_set (i := 7) nd rfl (Or.inl rfl) (pmake GY hr (by decide) rfl T.mgY (pa_cons (pv 1) pa_nil)))
      (pss_cons (ps_for PassesOwn.never rfl (pi_list (pv 5)) (pg_name (i := 4) nd rfl (Or.inl rfl))
        (pss_one (ps_expr (pmeth GC T.clY hr (by decide) (pv 7) (pa_cons (pv 4) pa_nil)))))
      (pss_cons (ps_set (i := 8) nd rfl (Or.inl rfl) (pe_ix ix_tup (pcall GR hr (by decide) rfl (pa_cons (pv 1) (pa_cons (pv 6) pa_nil))) pe_int (fun _ _ => rfl)))
      (pss_one (ps_ret (pe_and (pe_cmpR op_eq (pe_callB call_len_seq (by rfl) T.len PySem.boot_len (pa_cons (pv 8) pa_nil)) pe_int (nomark _))
        (pe_one (pe_cmpR op_eq (pe_ix ix_tup (pe_ix ix_list (pv 8) pe_int (fun _ _ => rfl)) pe_int (fun _ _ => rfl)) (pmeth GS T.clY hr (by decide) (pv 7) (pa_cons (pv 3) pa_nil)) (nomark _)))))))))))), ?_⟩
    refine ⟨_, rfl, p, 2, rfl, hpt, by decide, by decide, fun r H1 k1 pt1 hr1 => ?_⟩
    obtain ⟨f, ef, hf⟩ := of_sn hr1
    rw [ef]
    have pl1 := k1 _ _ hplp hplp hpl
    have row1 : Row (ChAt f0) H1 xs chs := row.mono fun a d e => CAt.keep (k1.tk hpt.noT hpt.noT) e
    have lxs := row.len
    refine ⟨_, rfl, pl, rfl, ⟨_, SqL.of pl1⟩, fun D hD => ?_⟩
    refine lc_list (xs := xs) (fun i Hc => ∃ ys : List V, Hc D = some (.lst ys) ∧ Same H1 Hc ∧ Row (ChAt f) Hc ys (chs.take i) ∧ ys.length ≤ i) ⟨[], upd_same, Same.new _ hD, trivial, Nat.le_refl _⟩ ?_ ?_ ?_
    · rintro i Hc _ ⟨_, _, sc, _⟩
      exact SqL.of (sc _ _ pl1)
    · rintro i x Hc hx ⟨ys, e1, sc, e2, e3⟩
      have hi : i < xs.length := (List.getElem?_eq_some_iff.mp hx).1
      obtain ⟨c, ch, rfl, hch, z, hz1, hz2, hc⟩ := row1.at hx
      have hcd := sc _ _ hc
      refine ⟨rfl, ?_⟩
      refine ⟨_, rfl, (by show 1 ≤ sizeLine; decide), fun t1 h1 => ?_⟩
      have s1 := Same.new (.tup [.int (sn f)]) h1
      refine ⟨_, rfl, 1, rfl, c, _, rfl, SqT.of (s1 _ _ hcd), (by show ¬ (HT.sIx 4 0 (some 1) = 0 ∧ HT.sIx 4 4 none = 4); decide), fun t2 h2 => ?_⟩
      have s2 := Same.new (.tup (cutV [.int (sn f0), .str (kw ch), .int ch.num, .str (one z)] (some 1) none)) h2
      refine ⟨t1, t2, _, _, rfl, rfl, SqT.of (s2 _ _ upd_same), SqT.of upd_same, by simp, (by show 1 + 3 ≤ sizeLine; decide), fun w => (by cases w), fun _ t3 h3 => ?_⟩
      have s3 := Same.new (.tup ([.int (sn f)] ++ cutV [.int (sn f0), .str (kw ch), .int ch.num, .str (one z)] (some 1) none)) h3
      have s123 := (s1.trans s2).trans s3
      have e1' := s123 _ _ e1
      have t3D : t3 ≠ D := ne_of upd_same e1' (by intro w; cases w)
      refine ⟨ys, e1', small (by omega), ys ++ [.ref t3], upd_same, fun a u h => ?_, ?_, by rw [List.length_append]; show _ + 1 ≤ _; omega⟩
      · rw [upd_ne (ne_of_none h hD)]
        exact s123 _ _ (sc _ _ h)
      · rw [take_snoc hch]
        have tk : TK Hc (upd (upd (upd (upd Hc t1 (.tup [.int (sn f)])) t2 (.tup (cutV [.int (sn f0), .str (kw ch), .int ch.num, .str (one z)] (some 1) none))) t3 (.tup ([.int (sn f)] ++ cutV [.int (sn f0), .str (kw ch), .int ch.num, .str (one z)] (some 1) none))) D (.lst (ys ++ [.ref t3]))) := (TK.of s123).trans (TK.upd _ (NoT.lst e1'))
        refine (e2.mono fun a d e => CAt.keep tk e).snoc ⟨z, hz1, hz2, ?_⟩
        rw [upd_ne t3D, upd_same]
        rfl
    · rintro Hc ⟨ys, e1, sc, e2, e3⟩
      rw [lxs, List.take_length] at e2
      have lys := e2.len
      refine ⟨(by show 0 ≤ sizeLine; decide), fun a0 ha0 => ⟨(by show 0 ≤ sizeLine; decide), fun a1 ha1 => ⟨(by show 2 ≤ sizeLine; decide), fun R hR => ?_⟩⟩⟩
      have s0 := Same.new (.lst []) ha0
      have s1 := Same.new (.lst []) ha1
      have s2 := Same.new (.lst [.ref a0, .ref a1]) hR
      have s012 := (s0.trans s1).trans s2
      have hRn : Hc R = none := none_of (s0.trans s1) hR
      have R0 : a0 ≠ R := ne_of_none (s1 _ _ upd_same) hR
      have R1 : a1 ≠ R := ne_of_none upd_same hR
      refine ⟨_, rfl, _, rfl, _, rfl, R, _, _, (if f then 0 else 1), rfl, rfl, upd_same, by cases f <;> rfl, ?_⟩
      have eset : ([V.ref a0, V.ref a1].set (if f = true then 0 else 1) (V.ref D)) = [.ref (updB (updB (fun _ => a1) true a0) f D true), .ref (updB (updB (fun _ => a1) true a0) f D false)] := by
        cases f <;> rfl
      rw [eset]
      have sH4 : Same Hc (upd (upd (upd (upd Hc a0 (.lst [])) a1 (.lst [])) R (.lst [.ref a0, .ref a1])) R (.lst [.ref (updB (updB (fun _ => a1) true a0) f D true), .ref (updB (updB (fun _ => a1) true a0) f D false)])) := fun b u e => by
        rw [upd_ne (ne_of_none e hRn)]
        exact s012 _ _ e
      have R4 : upd (upd (upd (upd Hc a0 (.lst [])) a1 (.lst [])) R (.lst [.ref a0, .ref a1])) R (.lst [.ref (updB (updB (fun _ => a1) true a0) f D true), .ref (updB (updB (fun _ => a1) true a0) f D false)]) R = some (.lst [.ref (updB (updB (fun _ => a1) true a0) f D true), .ref (updB (updB (fun _ => a1) true a0) f D false)]) := upd_same
      have a04 : upd (upd (upd (upd Hc a0 (.lst [])) a1 (.lst [])) R (.lst [.ref a0, .ref a1])) R (.lst [.ref (updB (updB (fun _ => a1) true a0) f D true), .ref (updB (updB (fun _ => a1) true a0) f D false)]) a0 = some (.lst []) := (upd_ne R0).trans ((upd_ne R0).trans (s1 _ _ upd_same))
      have a14 : upd (upd (upd (upd Hc a0 (.lst [])) a1 (.lst [])) R (.lst [.ref a0, .ref a1])) R (.lst [.ref (updB (updB (fun _ => a1) true a0) f D true), .ref (updB (updB (fun _ => a1) true a0) f D false)]) a1 = some (.lst []) := (upd_ne R1).trans ((upd_ne R1).trans upd_same)
      generalize upd (upd (upd (upd Hc a0 (.lst [])) a1 (.lst [])) R (.lst [.ref a0, .ref a1])) R (.lst [.ref (updB (updB (fun _ => a1) true a0) f D true), .ref (updB (updB (fun _ => a1) true a0) f D false)]) = H4 at sH4 R4 a04 a14 ⊢
      have D4 := sH4 _ _ e1
      have row4 : Row (ChAt f) H4 ys chs := e2.mono fun a d e => CAt.keep (TK.of sH4) e
      have plans4 : PlansAt H4 R (updB (fun _ => []) f chs) := by
        refine ⟨updB (updB (fun _ => a1) true a0) f D, R4, fun g => ?_⟩
        rcases bool_or f g with e | e
        · rw [e]
          simp only [updB_same]
          exact ⟨ys, D4, row4⟩
        · rw [e]
          simp only [updB_not]
          refine ⟨[], ?_, trivial⟩
          cases f
          · exact a04
          · exact a14
      have plen : ∀ g, (updB (fun _ => []) f chs g).length ≤ 3 := fun g => by
        rcases bool_or f g with e | e
        · rw [e, updB_same]; exact hn3
        · rw [e, updB_not]; exact Nat.zero_le 3
      have Pf : updB (fun _ => ([] : List Ch)) f chs f = chs := updB_same _ _ _
      have Pn : updB (fun _ => ([] : List Ch)) f chs (!f) = [] := updB_not _ _ _
      generalize updB (fun _ => ([] : List Ch)) f chs = Pl at plans4 plen Pf Pn
      -- the yard
      refine ⟨_, rfl, fun y dx hy0 hdx hne => ?_⟩
      have hxy : ∀ b u, H4 b = some u → b ≠ y ∧ b ≠ dx := fun b u e => ⟨ne_of_none e hy0, ne_of_none e hdx⟩
      refine ⟨y, dx, l, rfl, upd_same, by omega, fun F0 H5 sl rl hF0 hs1 hs2 hY => ⟨rfl, ?_⟩⟩
      have sF0 : Same H4 F0 := fun b u e => hF0 b u (hxy b u e).1 (by rw [upd_ne (hxy b u e).1, upd_ne (hxy b u e).2]; exact e)
      refine ⟨_, rfl, D, rfl, ⟨_, SqL.of (hY.frame _ _ (sF0 _ _ D4))⟩, for_list (xs := ys)
        (fun i σ H6 => ∃ (x4 : Option V) (S : RunM), σ = [some (.ref p), some (.str (ln l)), some (.ref pl), some (.int (sn f)), x4, some (.ref D), some (.ref R), some (.ref y), none] ∧ YardAt CY CS F0 H6 y sl rl S.Y ∧ RunOk l Pl S ∧ (S.Y.s f).made = i)
        ⟨none, run0 l Pl, rfl, hY, runOk0 l Pl, rfl⟩ ?_ ?_ ?_⟩
      · rintro i σ H6 _ ⟨_, S, _, hY6, _⟩
        exact SqL.of (hY6.frame _ _ (sF0 _ _ D4))
      · rintro i x σ H6 hx ⟨_, S, rfl, hY6, hS, hm⟩
        obtain ⟨c, ch, rfl, hch, hc⟩ := row4.at hx
        have hc6 : CAt H6 c f ch := CAt.keep (TK.of (sF0.trans hY6.frame)) hc
        have hyin := hS.yin hl (fun g => Nat.le_trans (plen g) (by decide))
        have hleft : S.left f = ch :: chs.drop (i + 1) := by
          rw [hS.left f, hm, Pf]
          exact drop_at hch
        have est : S.step (f, true) = ⟨S.Y.make f (ch.deed (S.Y.s f).text), updB S.left f (chs.drop (i + 1))⟩ := by simp only [RunM.step, hleft]
        have hS2 := hS.make hleft
        obtain ⟨ydx, yra, ysa, ywa, B⟩ := id hY6
        refine ⟨_, rfl, y, ydx, _, rfl, B.same _ _ B.y, rfl, _, rfl, F0, y, sl, rl, c, f, S.Y, ch, rfl, hY6, hc6, hyin, fun r' H7 t7 hY7 => ?_⟩
        refine ⟨_, S.step (f, true), rfl, by rw [est]; exact hY7, hS2, ?_⟩
        rw [est]
        simp only [YardM.make, updB_same, makeM, hm]
      · rintro σ H6 ⟨_, S, rfl, hY6, hS, hm⟩
        rw [lys] at hm
        have s46 := sF0.trans hY6.frame
        refine ⟨_, rfl, _, rfl, l, R, Pl, rfl, hl, plans4.keep (TL.of s46), plen, fun r' a tot H7 s7 hr7 ⟨ws, w1, w2, w3, w4, w5⟩ => ?_⟩
        refine ⟨_, _, _, _, rfl, rfl, SqT.of hr7, at_of (j := 1) rfl rfl, ?_⟩
        have hY7 := hY6.mono s7
        have hal := hS.alone f Pn
        rw [hm, Pf, List.take_length] at hal
        have allT : ∀ z ∈ ws, z.2.1 = ln (typed l chs) := fun z hz => by
          obtain ⟨T, eT, hT⟩ := w5 z hz
          rw [eT, hT.alone f Pn, Pf]
        obtain ⟨z0, rfl⟩ : ∃ z0, ws = [z0] := by
          match ws, w3, w4, allT with
          | [z0], _, _, _ => exact ⟨z0, rfl⟩
          | z0 :: z1 :: r, _, h4, h5 =>
            exfalso
            have e0 := h5 z0 (by simp)
            have e1 := h5 z1 (by simp)
            rw [List.map_cons, List.map_cons, e0, e1] at h4
            exact (List.nodup_cons.mp h4).1 (List.mem_cons_self ..)
        have ez := allT z0 (by simp)
        have hz0 := w2 z0 (by simp)
        rw [ez] at hz0
        have w1' : H7 a = some (.lst [.ref z0.1]) := w1
        obtain ⟨ydx, yra, ysa, ywa, B⟩ := id hY7
        refine ⟨_, rfl, _, _, rfl, .inl (SqL.of w1'), rfl, true, rfl, iteT ?_⟩
        refine ⟨_, rfl, _, _, _, _, rfl, rfl, SqL.of w1', at_of (j := 0) rfl rfl, _, _, _, _, rfl, rfl, SqT.of hz0, at_of (j := 0) rfl rfl, ?_⟩
        refine ⟨_, rfl, y, ydx, _, rfl, B.same _ _ B.y, rfl, _, rfl, F0, y, sl, rl, f, S.Y, rfl, hY7, fun H8 s8 => ⟨rfl, ?_⟩⟩
        rw [hal]
        refine q_T rfl (q H8 ?_ ?_)
        · exact k1.trans (Keep.of ((((sc.trans sH4).trans s46).trans s7).trans s8))
        · obtain ⟨pa, pc, pk, pe1, pe2⟩ := pt1
          exact ⟨pa, pc, pk, s8 _ _ (s7 _ _ (s46 _ _ (sH4 _ _ (sc _ _ pe1)))), pe2⟩
end
end Far
end

section
set_option linter.all false
set_option maxRecDepth 100000
set_option maxHeartbeats 4000000
namespace Far
open PySem PySem.Spec PyProof.Rows L2 FarN FarR
theorem cutV_mem {xs : List V} {lo hi : Option Int} {x : V} (h : x ∈ cutV xs lo hi) : x ∈ xs := by
  unfold cutV at h
  exact List.mem_of_mem_drop (List.mem_of_mem_take h)
theorem cutV_len (xs : List V) (lo hi : Option Int) : (cutV xs lo hi).length ≤ xs.length := by
  unfold cutV
  rw [List.length_take, List.length_drop]
  omega
theorem plans_ne {H : Hp} {p r : Addr} {Pl : Bool → List Ch} {g : Bool → Addr} (hp : PotAt H p) (e : H r = some (.lst [.ref (g true), .ref (g false)])) (hg : ∀ f, ∃ xs, H (g f) = some (.lst xs) ∧ Row (ChAt f) H xs (Pl f)) : r ≠ p ∧ ∀ f, g f ≠ p := by
  obtain ⟨a, c, k, h, _⟩ := hp
  refine ⟨fun z => ?_, fun f z => ?_⟩
  · rw [z, h] at e
    injection e with e
    injection e with e
    injection e with e _
    cases e
  · obtain ⟨xs, x1, x2⟩ := hg f
    rw [z, h] at x1
    injection x1 with x1
    injection x1 with x1
    rw [← x1] at x2
    cases q : Pl f with
    | nil => rw [q] at x2; exact x2
    | cons d ds => rw [q] at x2; exact x2
theorem plans_keep {H H' : Hp} {p r : Addr} {Pl : Bool → List Ch} (hp : PotAt H p) (k : Keep p p H H') (h : PlansAt H r Pl) : PlansAt H' r Pl := by
  obtain ⟨g, e, hg⟩ := h
  obtain ⟨n1, n2⟩ := plans_ne hp e hg
  refine ⟨g, k _ _ n1 n1 e, fun f => ?_⟩
  obtain ⟨xs, x1, x2⟩ := hg f
  exact ⟨xs, k _ _ (n2 f) (n2 f) x1, x2.mono fun a d e => CAt.keep (k.tk hp.noT hp.noT) e⟩
section
variable {P : Program} {w : World} {K : PySem.W.Frag} {mg : Str → Option Value} {base : Heap} {CS CY PA : Addr}
/-! ### law(script) -/
def spLaw (K : PySem.W.Frag) : Sp := fun vs H Q _ => ∃ (a : Addr) (ns : List Int), vs = [.ref a] ∧ SqL K H a (ns.map V.int) ∧ ns.length ≤ 63 ∧ ∀ H', Q (.bl true) H'
theorem scLaw : FnScope ["script", "k", "cell", "pot", "line", "plans", "plan"] ["script"] (defScope sLaw) := ⟨rfl, rfl, rfl, by decide +kernel, rfl, by decide +kernel, by decide +kernel⟩
theorem ok_law {f : Addr} {fd : FuncData} (F : Fun K "law" "law" sLaw f fd) (T : Txt K w mg CS CY PA) (GP : FnG P w K mg base 1 "_law_pot" ["cell"] spPot) (GT : FnG P w K mg base 2 "_law_take" ["pot", "many"] spTake) (GS : FnG P w K mg base 4 "_law_short_line" ["pot"] spShort)
    (GL : FnG P w K mg base 4 "_law_plans" ["pot", "most"] spPlans) (GA : FnG P w K mg base 10 "_law_alone_right" ["pot", "line", "plan"] spAlone) (GO : FnG P w K mg base 1 "_law_of" ["kind", "plans"] spLawOf)
    (GPu : FnG P w K mg base 10 "_law_puts_right" ["line", "plans"] spPuts) (GCu : FnG P w K mg base 10 "_law_cuts_right" ["line", "plans"] spCuts) (GB : FnG P w K mg base 10 "_law_both_right" ["line", "plans"] spBoth) :
    FnOk P w K mg base CX0 11 f fd ["script"] (spLaw K) := by
  refine F.ok scLaw (fun vs H Q E h => ?_) (fun cdv A outer s H vs Q E hr h => ?_)
  · obtain ⟨a, ns, rfl, _⟩ := h
    rfl
  · obtain ⟨a, ns, rfl, ha, hns, q⟩ := h
    have nd := scLaw.nd
    refine ⟨_, pss_cons (ps_for PassesOwn.never rfl (pi_enum (by rfl) T.enum (pa_cons (pe_op op_cat (pe_slice sl_list (pv 0) po_none (po_some pe_int)) (pe_lst (pa_cons (pe_callB call_len_seq (by rfl) T.len PySem.boot_len (pa_cons (pv 0) pa_nil)) pa_nil))) pa_nil)) (pg_tup (by rfl) (pgs_cons (pg_name (i := 1) nd rfl (Or.inl rfl)) (pgs_cons (pg_name (i := 2) nd rfl (Or.inl rfl)) pgs_nil)))
        (pss_cons (ps_set (i := 3) nd rfl (Or.inl rfl) (pcall GP hr (by decide) rfl (pa_cons (pv 2) pa_nil)))
        (pss_cons (ps_set (i := 4) nd rfl (Or.inl rfl) (pcall GS hr (by decide) rfl (pa_cons (pv 3) pa_nil)))
        (Evl.pss_cut (ps_set (i := 5) nd rfl (Or.inl rfl) (pcall GL hr (by decide) rfl (pa_cons (pv 3) (pa_cons (pe_op op_add pe_int (pe_callTy call_int1 (by rfl) T.int (by decide +kernel) (pa_cons (pe_and (pe_cmpR op_eq (pv 1) pe_int (nomark _)) (pe_one (pe_cmpR op_eq (pcall GT hr (by decide) rfl (pa_cons (pv 3) (pa_cons pe_int pa_nil))) pe_int (nomark _)))) pa_nil))) pa_nil))))
        (pss_cons (ps_for PassesOwn.never rfl (pi_list (pv 5)) (pg_name (i := 6) nd rfl (Or.inl rfl)) (pss_one (ps_if (pt_not (pt_val (pcall GA hr (by decide) rfl (pa_cons (pv 3) (pa_cons (pv 4) (pa_cons (pv 6) pa_nil)))))) (pss_one (ps_ret pe_bl)) pss_nil)))
        (pss_cons (ps_if (pt_not (pt_val (pcall GPu hr (by decide) rfl (pa_cons (pv 4) (pa_cons (pcall GO hr (by decide) rfl (pa_cons pe_str (pa_cons (pv 5) pa_nil))) pa_nil))))) (pss_one (ps_ret pe_bl)) pss_nil)
        (pss_one (ps_if (PW.pt (pw_or (pt_not (pt_val (pcall GCu hr (by decide) rfl (pa_cons (pv 4) (pa_cons (pcall GO hr (by decide) rfl (pa_cons pe_str (pa_cons (pv 5) pa_nil))) pa_nil))))) (pw_or1 (pt_not (pt_val (pcall GB hr (by decide) rfl (pa_cons (pv 4) (pa_cons (pv 5) pa_nil)))))))) (pss_one (ps_ret pe_bl)) pss_nil))))))))
      (pss_one (ps_ret pe_bl)), ?_⟩
    -- the walked list
    refine ⟨_, rfl, 3, rfl, a, _, rfl, ha, fun b1 h1 => ?_⟩
    have s1 := Same.new (.lst (cutV (ns.map V.int) none (some 3))) h1
    have ha1 : SqL K (upd H b1 (.lst (cutV (ns.map V.int) none (some 3)))) a (ns.map V.int) := by
      rcases ha with (h | ⟨o, h⟩) | h
      · exact .inl (.inl (s1 _ _ h))
      · exact .inl (.inr ⟨o, s1 _ _ h⟩)
      · exact .inr h
    refine ⟨_, rfl, a, _, rfl, .inl ha1, (by show 1 ≤ sizeLine; decide), fun b2 h2 => ?_⟩
    have s2 := Same.new (.lst [.int ((ns.map V.int).length : Nat)]) h2
    refine ⟨b1, b2, _, _, rfl, rfl, s2 _ _ upd_same, upd_same, ?_, fun cx h3 => ?_⟩
    · have := cutV_len (ns.map V.int) none (some 3)
      rw [List.length_map] at this
      exact small' (by show _ + 1 ≤ 1000; omega)
    have allI : ∀ x ∈ cutV (ns.map V.int) none (some 3) ++ [V.int ((ns.map V.int).length : Nat)], ∃ c : Int, x = .int c := fun x hx => by
      rcases List.mem_append.mp hx with h | h
      · obtain ⟨c, _, rfl⟩ := List.mem_map.mp (cutV_mem h)
        exact ⟨c, rfl⟩
      · exact ⟨_, List.mem_singleton.mp h⟩
    have cxH : upd (upd (upd H b1 (.lst (cutV (ns.map V.int) none (some 3)))) b2 (.lst [.int ((ns.map V.int).length : Nat)])) cx (.lst (cutV (ns.map V.int) none (some 3) ++ [.int ((ns.map V.int).length : Nat)])) cx = some (.lst (cutV (ns.map V.int) none (some 3) ++ [.int ((ns.map V.int).length : Nat)])) := upd_same
    generalize cutV (ns.map V.int) none (some 3) ++ [V.int ((ns.map V.int).length : Nat)] = items at allI cxH ⊢
    refine ⟨cx, items, rfl, SqL.of cxH, for_it walk_enum (fun i σ Hc => ∃ x1 x2 x3 x4 x5 x6 : Option V, σ = [some (.ref a), x1, x2, x3, x4, x5, x6] ∧ Hc cx = some (.lst items))
      ⟨none, none, none, none, none, none, rfl, cxH⟩ (fun i σ Hc _ ⟨_, _, _, _, _, _, _, h⟩ => SqL.of h) ?_ ?_⟩
    · rintro i x σ Hc Hc' hi ⟨_, _, _, _, _, _, rfl, hcx⟩ ⟨T0, y1, y2, rfl, hT0, rfl, ey1, ey2⟩
      obtain rfl : V.int (i : Nat) = y1 := Option.some.inj ey1
      obtain ⟨c, rfl⟩ := allI y2 (List.mem_of_getElem? ey2)
      have s0 := Same.new (.tup [.int (i : Nat), .int c]) hT0
      refine ⟨_, _, rfl, SqT.of upd_same, rfl, _, _, rfl, _, _, rfl, rfl, ?_⟩
      refine ⟨_, rfl, c, rfl, fun p H2 s2' hpn pt2 => ?_⟩
      have hcx2 := s2' _ _ (s0 _ _ hcx)
      have hcp : cx ≠ p := ne_of_none (s0 _ _ hcx) hpn
      refine ⟨_, rfl, p, rfl, pt2, fun l H3 k3 pt3 l40 lsg => ?_⟩
      have hcx3 := k3 _ _ hcp hcp hcx2
      refine ⟨fun σ' H5 => ∃ (x6 : Option V) (R : Addr) (Pl : Bool → List Ch), σ' = [some (.ref a), some (.int (i : Nat)), some (.int c), some (.ref p), some (.str (ln l)), some (.ref R), x6] ∧ Keep p p H3 H5 ∧ PotAt H5 p ∧ PlansAt H5 R Pl ∧ ∀ f, (Pl f).length ≤ 3, ?_, ?_⟩
      · refine ⟨_, rfl, _, rfl, rfl, _, rfl, ?_⟩
        by_cases h0 : V.int (i : Nat) = V.int 0
        · refine iteD h0 ?_
          refine ⟨_, rfl, p, 3, rfl, pt3, by decide, by decide, fun r H4 k4 pt4 hr4 => ⟨rfl, .inr ⟨_, rfl, _, _, rfl, rfl, ?_⟩⟩⟩
          refine ⟨p, if decide (V.int (r : Int) = V.int 1) = true then 3 else 2, by split <;> rfl, pt4, by split <;> decide, fun R Pl H5 k5 pt5 pl5 len5 => ?_⟩
          exact ⟨_, R, Pl, rfl, k4.trans k5, pt5, pl5, fun f => Nat.le_trans (len5 f) (by split <;> decide)⟩
        · refine iteDn h0 (.inr ⟨_, rfl, _, _, rfl, rfl, ?_⟩)
          exact ⟨p, 2, rfl, pt3, by decide, fun R Pl H5 k5 pt5 pl5 len5 => ⟨_, R, Pl, rfl, k5, pt5, pl5, fun f => Nat.le_trans (len5 f) (by decide)⟩⟩
      · rintro σ' H5 ⟨_, R, Pl, rfl, k5, pt5, pl5, len5⟩
        obtain ⟨g, R5, hg⟩ := id pl5
        obtain ⟨Rp, gp⟩ := plans_ne pt5 R5 hg
        have hcx5 := k5 _ _ hcp hcp hcx3
        refine ⟨_, rfl, R, rfl, ⟨_, SqL.of R5⟩, for_list (xs := [.ref (g true), .ref (g false)]) (fun j σ H6 => ∃ x6 : Option V, σ = [some (.ref a), some (.int (i : Nat)), some (.int c), some (.ref p), some (.str (ln l)), some (.ref R), x6] ∧ Keep p p H5 H6 ∧ PotAt H6 p)
          ⟨_, rfl, Keep.refl _, pt5⟩ ?_ ?_ ?_⟩
        · rintro j σ H6 _ ⟨_, _, k6, _⟩
          exact SqL.of (k6 _ _ Rp Rp R5)
        · rintro j v σ H6 hv ⟨_, rfl, k6, pt6⟩
          have pl6 := plans_keep pt5 k6 pl5
          obtain ⟨f, xs, rfl, _, x1, x2, row⟩ := lens_of pl6 j v g (k6 _ _ Rp Rp R5) hv
          refine ⟨_, rfl, _, rfl, _, rfl, p, g f, l, f, xs, Pl f, rfl, pt6, by omega, gp f, x1, row, len5 f, fun H7 k7 pt7 => ⟨true, rfl, iteF ?_⟩⟩
          exact ⟨_, rfl, k6.trans k7, pt7⟩
        · rintro σ H6 ⟨_, rfl, k6, pt6⟩
          have pl6 := plans_keep pt5 k6 pl5
          have hcx6 := k6 _ _ hcp hcp hcx5
          have big : ∀ f, (Pl f).length ≤ 900 := fun f => Nat.le_trans (len5 f) (by decide)
          refine ⟨_, rfl, _, rfl, true, R, Pl, rfl, pl6, big, fun l2 Pl2 H7 s7 pl7 len7 put7 => ?_⟩
          refine ⟨l, l2, Pl2, rfl, by omega, lsg, pl7, fun f => (by rw [len7]; exact len5 f), put7, fun H8 s8 => ⟨true, rfl, iteF ?_⟩⟩
          have pl8 := pl6.keep (TL.of (s7.trans s8))
          refine ⟨_, rfl, _, rfl, false, R, Pl, rfl, pl8, big, fun l3 Pl3 H9 s9 pl9 len9 put9 => ?_⟩
          refine ⟨l, l3, Pl3, rfl, by omega, pl9, fun f => (by rw [len9]; exact len5 f), put9, fun H10 s10 => ⟨true, rfl, iteF ?_⟩⟩
          have s810 := s9.trans s10
          refine ⟨_, rfl, _, rfl, l, R, Pl, rfl, by omega, pl8.keep (TL.of s810), len5, fun H11 s11 => ⟨true, rfl, iteF ?_⟩⟩
          exact ⟨_, _, _, _, _, _, rfl, s11 _ _ (s810 _ _ ((s7.trans s8) _ _ hcx6))⟩
    · rintro σ Hc ⟨_, _, _, _, _, _, rfl, _⟩
      exact q Hc
end
end Far
end

section
set_option linter.all false
set_option maxRecDepth 100000
set_option maxHeartbeats 4000000
/-! The facts of the top gathered: one row a def. -/
namespace Far
open PySem PySem.Spec PyProof.Rows L2 FarN FarR
def ClsF (K : PySem.W.Frag) (C : Addr) : Prop := PySem.W.makesIn K C = true ∧ PySem.W.keepIn K (.ref C) = true
def TopF (K : PySem.W.Frag) (x : Str) (st : Stmt) (f : Addr) (fd : FuncData) : Prop := PySem.W.nsIn K mainGlobals x = some (some (.ref f)) ∧ PySem.W.keepIn K (.ref f) = true ∧ Fun K x x st f fd
def MthF (K : PySem.W.Frag) (C : Addr) (m q : Str) (st : Stmt) (f : Addr) (fd : FuncData) : Prop := PySem.W.findIn K (.ref C) m = some (some (.ref f)) ∧ PySem.W.isFn K (.ref f) = true ∧ PySem.W.keepIn K (.ref f) = true ∧ Fun K m q st f fd
theorem topF_k {K : PySem.W.Frag} {h : Heap} {x : Str} {st : Stmt} {f : Addr} {oc : Value} {od an : Option Addr} {osl : Array (Option Value)} {kV doc pm cdv ct : Value} {Goal : Prop} (X : K.In h)
    (a : PySem.W.nsIn K mainGlobals x = some (some (.ref f))) (l : K.lookup f = some ⟨oc, od, .func (PySem.W.fnOf x x (defArgs st) (defBody st) (defScope st) .none kV doc pm an cdv ct), osl⟩)
    (c : PySem.W.codeIn K cdv x = true) (k : PySem.W.keepIn K (.ref f) = true) (cont : TopF K x st f (PySem.W.fnOf x x (defArgs st) (defBody st) (defScope st) .none kV doc pm an cdv ct) → Goal) : Goal := cont ⟨a, k, fun_mk l c k⟩
theorem mthF_k {K : PySem.W.Frag} {h : Heap} {C : Addr} {m q : Str} {st : Stmt} {f : Addr} {oc : Value} {od an : Option Addr} {osl : Array (Option Value)} {kV doc pm cdv ct : Value} {Goal : Prop} (X : K.In h) (cf : ClsF K C)
    (a : PySem.W.findIn K (.ref C) m = some (some (.ref f))) (i : PySem.W.isFn K (.ref f) = true) (l : K.lookup f = some ⟨oc, od, .func (PySem.W.fnOf m q (defArgs st) (defBody st) (defScope st) .none kV doc pm an cdv ct), osl⟩)
    (c : PySem.W.codeIn K cdv q = true) (k : PySem.W.keepIn K (.ref f) = true) (cont : MthF K C m q st f (PySem.W.fnOf m q (defArgs st) (defBody st) (defScope st) .none kV doc pm an cdv ct) → Goal) : Goal := cont ⟨a, i, k, fun_mk l c k⟩
theorem kd {K : PySem.W.Frag} {w : World} {a : Addr} {x : Str} {es : Array DictEntry} {n : Nat} {i : Int} {t : Tok} (l : K.lookup a = some ⟨.type "dict", none, .dict es n, #[]⟩) (k : PySem.W.KeysLit w.params es.toList) (e : PySem.W.nsIn K a x = some (some (.int i t))) : KDct K w a x (.int i) := ⟨es, n, _, l, k, e, ⟨t, rfl⟩⟩

theorem txt_k {K : PySem.W.Frag} {w : World} {h : Heap} {mg : Str → Option Value} {CS CY PA : Addr} {tg t1 t2 t3 : Tok} {es : Array DictEntry} {nn : Nat} {Goal : Prop} (X : K.In h) (G : h.Ns mainGlobals mg)
    (n_isinstance : PySem.W.nsIn K mainGlobals "isinstance" = some none)
    (n_int : PySem.W.nsIn K mainGlobals "int" = some none)
    (n_str : PySem.W.nsIn K mainGlobals "str" = some none)
    (n_bool : PySem.W.nsIn K mainGlobals "bool" = some none)
    (n_tuple : PySem.W.nsIn K mainGlobals "tuple" = some none)
    (n_len : PySem.W.nsIn K mainGlobals "len" = some none)
    (n_range : PySem.W.nsIn K mainGlobals "range" = some none)
    (n_list : PySem.W.nsIn K mainGlobals "list" = some none)
    (n_sorted : PySem.W.nsIn K mainGlobals "sorted" = some none)
    (n_sum : PySem.W.nsIn K mainGlobals "sum" = some none)
    (n_max : PySem.W.nsIn K mainGlobals "max" = some none)
    (n_min : PySem.W.nsIn K mainGlobals "min" = some none)
    (n_enumerate : PySem.W.nsIn K mainGlobals "enumerate" = some none)
    (vSG : PySem.W.nsIn K mainGlobals "SIGNS" = some (some (.str "abcdefghijklmnopqrstuvwxyz " tg)))
    (vPA : PySem.W.nsIn K mainGlobals "PARTS" = some (some (.ref PA)))
    (lPA : K.lookup PA = some ⟨.type "dict", none, .dict es nn, #[]⟩)
    (kPA : PySem.W.KeysLit w.params es.toList)
    (pPut : PySem.W.nsIn K PA "put" = some (some (.int 3 t1)))
    (pCut : PySem.W.nsIn K PA "cut" = some (some (.int 2 t2)))
    (pNon : PySem.W.nsIn K PA "none" = some (some (.int 1 t3)))
    (lowPA : (PA == sysModules) = false)
    (vS : PySem.W.nsIn K mainGlobals "Seat" = some (some (.ref CS)))
    (pgS : PySem.W.plainGet K CS Str.empty = true)
    (hdS : PySem.W.hasDictIn K CS = true)
    (poS : PySem.W.plainOver K CS = true)
    (saS : PySem.W.findIn K (.ref CS) "__setattr__" = some (some (.builtin "object.__setattr__")))
    (mkS : PySem.W.makesIn K CS = true)
    (kcS : PySem.W.keepIn K (.ref CS) = true)
    (vY : PySem.W.nsIn K mainGlobals "Yard" = some (some (.ref CY)))
    (pgY : PySem.W.plainGet K CY Str.empty = true)
    (hdY : PySem.W.hasDictIn K CY = true)
    (poY : PySem.W.plainOver K CY = true)
    (saY : PySem.W.findIn K (.ref CY) "__setattr__" = some (some (.builtin "object.__setattr__")))
    (mkY : PySem.W.makesIn K CY = true)
    (kcY : PySem.W.keepIn K (.ref CY) = true)
    (no_ahead : PySem.W.findIn K (.ref CS) "ahead" = some none)
    (no_text : PySem.W.findIn K (.ref CS) "text" = some none)
    (no_many_made : PySem.W.findIn K (.ref CS) "many_made" = some none)
    (no_many_taken : PySem.W.findIn K (.ref CS) "many_taken" = some none)
    (no_heard : PySem.W.findIn K (.ref CS) "heard" = some none)
    (no_waiting : PySem.W.findIn K (.ref CS) "waiting" = some none)
    (no_own_mark : PySem.W.findIn K (.ref CS) "own_mark" = some none)
    (no_far_mark : PySem.W.findIn K (.ref CS) "far_mark" = some none)
    (no_seats : PySem.W.findIn K (.ref CY) "seats" = some none)
    (no_roads : PySem.W.findIn K (.ref CY) "roads" = some none)
    (cont : Txt K w mg CS CY PA → ClsF K CS → ClsF K CY → Goal) : Goal :=
  cont

    { isi := PySem.W.mg_none_of X G n_isinstance
      int := PySem.W.mg_none_of X G n_int
      str := PySem.W.mg_none_of X G n_str
      bool := PySem.W.mg_none_of X G n_bool
      tuple := PySem.W.mg_none_of X G n_tuple
      len := PySem.W.mg_none_of X G n_len
      range := PySem.W.mg_none_of X G n_range
      list := PySem.W.mg_none_of X G n_list
      sorted := PySem.W.mg_none_of X G n_sorted
      sum := PySem.W.mg_none_of X G n_sum
      max := PySem.W.mg_none_of X G n_max
      min := PySem.W.mg_none_of X G n_min
      enum := PySem.W.mg_none_of X G n_enumerate
      sg := ⟨tg, PySem.W.mg_of X G vSG⟩
      parts := PySem.W.mg_of X G vPA
      plow := lowPA
      plk := ⟨es, nn, lPA⟩
      pput := kd lPA kPA pPut
      pcut := kd lPA kPA pCut
      pnon := kd lPA kPA pNon
      clS := ⟨pgS, hdS, poS, saS⟩
      clY := ⟨pgY, hdY, poY, saY⟩
      mgS := PySem.W.mg_of X G vS
      mgY := PySem.W.mg_of X G vY
      nAhead := no_ahead
      nText := no_text
      nMade := no_many_made
      nTaken := no_many_taken
      nHeard := no_heard
      nWaiting := no_waiting
      nOwn := no_own_mark
      nFar := no_far_mark
      nSeats := no_seats
      nRoads := no_roads } ⟨mkS, kcS⟩ ⟨mkY, kcY⟩

theorem finish {P : Program} {w : World} {K : PySem.W.Frag} {h base : Heap} {mg : Str → Option Value} {CS CY PA fa : Addr} {a_is_sign a_is_place a_is_whole a_is_deed a_can_be_done a_done a_moved a_mark_moved a_moved_behind a_rows_moved a_is_letter a_is_seat a_need_seat a_past a_make_in a_take_in a_shown a_seat a_make_at a_come_to a_shown_at a_yard a_chosen a_choose a_steps_open a_key_behind a_grown a_line_behind a_runs_of a__law_mixed a__law_pot a__law_take a__law_sign a__law_plans a__law_short_line a__law_holds a__law_alone_right a__law_of a__law_puts_right a__law_cuts_right a__law_both_right a_law : Addr} {d_is_sign d_is_place d_is_whole d_is_deed d_can_be_done d_done d_moved d_mark_moved d_moved_behind d_rows_moved d_is_letter d_is_seat d_need_seat d_past d_make_in d_take_in d_shown d_seat d_make_at d_come_to d_shown_at d_yard d_chosen d_choose d_steps_open d_key_behind d_grown d_line_behind d_runs_of d__law_mixed d__law_pot d__law_take d__law_sign d__law_plans d__law_short_line d__law_holds d__law_alone_right d__law_of d__law_puts_right d__law_cuts_right d__law_both_right d_law : FuncData}
    (X : K.In h) (G : h.Ns mainGlobals mg) (hfa : mg "law" = some (.ref fa)) (T : Txt K w mg CS CY PA) (cfS : ClsF K CS) (cfY : ClsF K CY)
    (t_is_sign : TopF K "is_sign" sIsSign a_is_sign d_is_sign)
    (t_is_place : TopF K "is_place" sIsPlace a_is_place d_is_place)
    (t_is_whole : TopF K "is_whole" sIsWhole a_is_whole d_is_whole)
    (t_is_deed : TopF K "is_deed" sIsDeed a_is_deed d_is_deed)
    (t_can_be_done : TopF K "can_be_done" sCan a_can_be_done d_can_be_done)
    (t_done : TopF K "done" sDone a_done d_done)
    (t_moved : TopF K "moved" sMoved a_moved d_moved)
    (t_mark_moved : TopF K "mark_moved" sMark a_mark_moved d_mark_moved)
    (t_moved_behind : TopF K "moved_behind" sMovedB a_moved_behind d_moved_behind)
    (t_rows_moved : TopF K "rows_moved" sRowsM a_rows_moved d_rows_moved)
    (t_is_letter : TopF K "is_letter" sIsLetter a_is_letter d_is_letter)
    (t_is_seat : TopF K "is_seat" sIsSeat a_is_seat d_is_seat)
    (t_need_seat : TopF K "need_seat" sNeed a_need_seat d_need_seat)
    (t_past : MthF K CS "past" "Seat.past" sPast a_past d_past)
    (t_make_in : MthF K CS "make_in" "Seat.make_in" sMakeIn a_make_in d_make_in)
    (t_take_in : MthF K CS "take_in" "Seat.take_in" sTakeIn a_take_in d_take_in)
    (t_shown : MthF K CS "shown" "Seat.shown" sShown a_shown d_shown)
    (t_seat : MthF K CS "__init__" "Seat.__init__" sSeatInit a_seat d_seat)
    (t_make_at : MthF K CY "make_at" "Yard.make_at" sMakeAt a_make_at d_make_at)
    (t_come_to : MthF K CY "come_to" "Yard.come_to" sComeTo a_come_to d_come_to)
    (t_shown_at : MthF K CY "shown_at" "Yard.shown_at" sShownAt a_shown_at d_shown_at)
    (t_yard : MthF K CY "__init__" "Yard.__init__" sYardInit a_yard d_yard)
    (t_chosen : TopF K "chosen" sChosen a_chosen d_chosen)
    (t_choose : MthF K CY "choose" "Yard.choose" sChoose a_choose d_choose)
    (t_steps_open : TopF K "steps_open" sOpen a_steps_open d_steps_open)
    (t_key_behind : TopF K "key_behind" sKeyB a_key_behind d_key_behind)
    (t_grown : TopF K "grown" sGrown a_grown d_grown)
    (t_line_behind : TopF K "line_behind" sLineB a_line_behind d_line_behind)
    (t_runs_of : TopF K "runs_of" sRuns a_runs_of d_runs_of)
    (t__law_mixed : TopF K "_law_mixed" sMixed a__law_mixed d__law_mixed)
    (t__law_pot : TopF K "_law_pot" sPot a__law_pot d__law_pot)
    (t__law_take : TopF K "_law_take" sTake a__law_take d__law_take)
    (t__law_sign : TopF K "_law_sign" sLSign a__law_sign d__law_sign)
    (t__law_plans : TopF K "_law_plans" sPlans a__law_plans d__law_plans)
    (t__law_short_line : TopF K "_law_short_line" sShort a__law_short_line d__law_short_line)
    (t__law_holds : TopF K "_law_holds" sHolds a__law_holds d__law_holds)
    (t__law_alone_right : TopF K "_law_alone_right" sAlone a__law_alone_right d__law_alone_right)
    (t__law_of : TopF K "_law_of" sLawOf a__law_of d__law_of)
    (t__law_puts_right : TopF K "_law_puts_right" sPuts a__law_puts_right d__law_puts_right)
    (t__law_cuts_right : TopF K "_law_cuts_right" sCuts a__law_cuts_right d__law_cuts_right)
    (t__law_both_right : TopF K "_law_both_right" sBoth a__law_both_right d__law_both_right)
    (t_law : TopF K "law" sLaw a_law d_law) :
    FnOk P w K mg base CX0 11 fa d_law ["script"] (spLaw K) := by
  have e := hfa.symm.trans (PySem.W.mg_of X G t_law.1)
  cases e
  have g_is_sign : FnG P w K mg base 1 "is_sign" ["thing"] spIsSign := ⟨_, _, ok_is_sign t_is_sign.2.2 T, PySem.W.mg_of X G t_is_sign.1, t_is_sign.2.1, t_is_sign.2.2.binds (ps := ["thing"]) fun _ _ _ _ _ _ us hl => match us, hl with | [_], _ => rfl⟩
  have g_is_place : FnG P w K mg base 1 "is_place" ["thing"] spIsPlace := ⟨_, _, ok_is_place t_is_place.2.2 T, PySem.W.mg_of X G t_is_place.1, t_is_place.2.1, t_is_place.2.2.binds (ps := ["thing"]) fun _ _ _ _ _ _ us hl => match us, hl with | [_], _ => rfl⟩
  have g_is_whole : FnG P w K mg base 1 "is_whole" ["thing"] spIsPlace := ⟨_, _, ok_is_whole t_is_whole.2.2 T, PySem.W.mg_of X G t_is_whole.1, t_is_whole.2.1, t_is_whole.2.2.binds (ps := ["thing"]) fun _ _ _ _ _ _ us hl => match us, hl with | [_], _ => rfl⟩
  have g_is_deed : FnG P w K mg base 2 "is_deed" ["thing"] spIsDeed := ⟨_, _, ok_is_deed t_is_deed.2.2 T g_is_sign g_is_place, PySem.W.mg_of X G t_is_deed.1, t_is_deed.2.1, t_is_deed.2.2.binds (ps := ["thing"]) fun _ _ _ _ _ _ us hl => match us, hl with | [_], _ => rfl⟩
  have g_can_be_done : FnG P w K mg base 3 "can_be_done" ["line", "deed"] spCan := ⟨_, _, ok_can t_can_be_done.2.2 T g_is_deed, PySem.W.mg_of X G t_can_be_done.1, t_can_be_done.2.1, t_can_be_done.2.2.binds (ps := ["line", "deed"]) fun _ _ _ _ _ _ us hl => match us, hl with | [_, _], _ => rfl⟩
  have g_done : FnG P w K mg base 4 "done" ["line", "deed"] spDone := ⟨_, _, ok_done t_done.2.2 T g_can_be_done, PySem.W.mg_of X G t_done.1, t_done.2.1, t_done.2.2.binds (ps := ["line", "deed"]) fun _ _ _ _ _ _ us hl => match us, hl with | [_, _], _ => rfl⟩
  have g_moved : FnG P w K mg base 1 "moved" ["deed", "other", "first"] spMoved := ⟨_, _, ok_moved t_moved.2.2 , PySem.W.mg_of X G t_moved.1, t_moved.2.1, t_moved.2.2.binds (ps := ["deed", "other", "first"]) fun _ _ _ _ _ _ us hl => match us, hl with | [_, _, _], _ => rfl⟩
  have g_mark_moved : FnG P w K mg base 2 "mark_moved" ["place", "deed", "first"] spMark := ⟨_, _, ok_mark t_mark_moved.2.2 g_moved, PySem.W.mg_of X G t_mark_moved.1, t_mark_moved.2.1, t_mark_moved.2.2.binds (ps := ["place", "deed", "first"]) fun _ _ _ _ _ _ us hl => match us, hl with | [_, _, _], _ => rfl⟩
  have g_moved_behind : FnG P w K mg base 2 "moved_behind" ["deed", "row", "first"] spMovedB := ⟨_, _, ok_movedB t_moved_behind.2.2 g_moved, PySem.W.mg_of X G t_moved_behind.1, t_moved_behind.2.1, t_moved_behind.2.2.binds (ps := ["deed", "row", "first"]) fun _ _ _ _ _ _ us hl => match us, hl with | [_, _, _], _ => rfl⟩
  have g_rows_moved : FnG P w K mg base 3 "rows_moved" ["one", "other"] spRowsM := ⟨_, _, ok_rowsM t_rows_moved.2.2 T g_moved_behind, PySem.W.mg_of X G t_rows_moved.1, t_rows_moved.2.1, t_rows_moved.2.2.binds (ps := ["one", "other"]) fun _ _ _ _ _ _ us hl => match us, hl with | [_, _], _ => rfl⟩
  have g_is_letter : FnG P w K mg base 3 "is_letter" ["thing"] spIsLetter := ⟨_, _, ok_is_letter t_is_letter.2.2 T g_is_deed g_is_whole, PySem.W.mg_of X G t_is_letter.1, t_is_letter.2.1, t_is_letter.2.2.binds (ps := ["thing"]) fun _ _ _ _ _ _ us hl => match us, hl with | [_], _ => rfl⟩
  have g_is_seat : FnG P w K mg base 1 "is_seat" ["thing"] spIsSeat := ⟨_, _, ok_is_seat t_is_seat.2.2 T, PySem.W.mg_of X G t_is_seat.1, t_is_seat.2.1, t_is_seat.2.2.binds (ps := ["thing"]) fun _ _ _ _ _ _ us hl => match us, hl with | [_], _ => rfl⟩
  have g_need_seat : FnG P w K mg base 2 "need_seat" ["thing"] spNeed := ⟨_, _, ok_need t_need_seat.2.2 g_is_seat, PySem.W.mg_of X G t_need_seat.1, t_need_seat.2.1, t_need_seat.2.2.binds (ps := ["thing"]) fun _ _ _ _ _ _ us hl => match us, hl with | [_], _ => rfl⟩
  have m_past : MtG P w K mg base CS 4 "past" ["self", "deed", "waiting"] (spPast CS) := ⟨_, _, (ok_past t_past.2.2.2 T g_rows_moved), ⟨t_past.1, t_past.2.1, t_past.2.2.1⟩, (t_past.2.2.2.binds (ps := ["self", "deed", "waiting"]) fun _ _ _ _ _ _ us hl => match us, hl with | [_, _, _], _ => rfl)⟩
  have m_make_in : MtG P w K mg base CS 5 "make_in" ["self", "deed"] (spMakeIn CS) := ⟨_, _, (ok_make_in t_make_in.2.2.2 T g_done g_mark_moved), ⟨t_make_in.1, t_make_in.2.1, t_make_in.2.2.1⟩, (t_make_in.2.2.2.binds (ps := ["self", "deed"]) fun _ _ _ _ _ _ us hl => match us, hl with | [_, _], _ => rfl)⟩
  have m_take_in : MtG P w K mg base CS 5 "take_in" ["self", "letter"] (spTakeIn CS) := ⟨_, _, (ok_take_in t_take_in.2.2.2 T g_is_letter g_can_be_done g_done g_mark_moved m_past), ⟨t_take_in.1, t_take_in.2.1, t_take_in.2.2.1⟩, (t_take_in.2.2.2.binds (ps := ["self", "letter"]) fun _ _ _ _ _ _ us hl => match us, hl with | [_, _], _ => rfl)⟩
  have m_shown : MtG P w K mg base CS 1 "shown" ["self"] (spShown CS) := ⟨_, _, (ok_shown t_shown.2.2.2 T), ⟨t_shown.1, t_shown.2.1, t_shown.2.2.1⟩, (t_shown.2.2.2.binds (ps := ["self"]) fun _ _ _ _ _ _ us hl => match us, hl with | [_], _ => rfl)⟩
  have k_seat : MkG P w K mg base CS 1 ["self", "number", "line"] (spSeatInit CS) := ⟨_, _, (ok_seat_init t_seat.2.2.2 T), ⟨cfS.1, t_seat.1, t_seat.2.1, cfS.2⟩, (t_seat.2.2.2.binds (ps := ["self", "number", "line"]) fun _ _ _ _ _ _ us hl => match us, hl with | [_, _, _], _ => rfl)⟩
  have m_make_at : MtG P w K mg base CY 6 "make_at" ["self", "seat", "deed"] (spMakeAt CY CS) := ⟨_, _, (ok_make_at t_make_at.2.2.2 T g_need_seat m_make_in), ⟨t_make_at.1, t_make_at.2.1, t_make_at.2.2.1⟩, (t_make_at.2.2.2.binds (ps := ["self", "seat", "deed"]) fun _ _ _ _ _ _ us hl => match us, hl with | [_, _, _], _ => rfl)⟩
  have m_come_to : MtG P w K mg base CY 6 "come_to" ["self", "seat"] (spComeTo CY CS) := ⟨_, _, (ok_come_to t_come_to.2.2.2 T g_need_seat m_take_in), ⟨t_come_to.1, t_come_to.2.1, t_come_to.2.2.1⟩, (t_come_to.2.2.2.binds (ps := ["self", "seat"]) fun _ _ _ _ _ _ us hl => match us, hl with | [_, _], _ => rfl)⟩
  have m_shown_at : MtG P w K mg base CY 3 "shown_at" ["self", "seat"] (spShownAt CY CS) := ⟨_, _, (ok_shown_at t_shown_at.2.2.2 T g_need_seat m_shown), ⟨t_shown_at.1, t_shown_at.2.1, t_shown_at.2.2.1⟩, (t_shown_at.2.2.2.binds (ps := ["self", "seat"]) fun _ _ _ _ _ _ us hl => match us, hl with | [_, _], _ => rfl)⟩
  have k_yard : MkG P w K mg base CY 3 ["self", "line"] (spYardInit CY CS) := ⟨_, _, (ok_yard_init t_yard.2.2.2 T k_seat), ⟨cfY.1, t_yard.1, t_yard.2.1, cfY.2⟩, (t_yard.2.2.2.binds (ps := ["self", "line"]) fun _ _ _ _ _ _ us hl => match us, hl with | [_, _], _ => rfl)⟩
  have g_chosen : FnG P w K mg base 4 "chosen" ["yard", "choice"] (spChosen CY CS) := ⟨_, _, ok_chosen t_chosen.2.2 T m_shown_at, PySem.W.mg_of X G t_chosen.1, t_chosen.2.1, t_chosen.2.2.binds (ps := ["yard", "choice"]) fun _ _ _ _ _ _ us hl => match us, hl with | [_, _], _ => rfl⟩
  have m_choose : MtG P w K mg base CY 7 "choose" ["self", "choice"] (spChoose CY CS) := ⟨_, _, (ok_choose t_choose.2.2.2 T g_chosen m_make_at), ⟨t_choose.1, t_choose.2.1, t_choose.2.2.1⟩, (t_choose.2.2.2.binds (ps := ["self", "choice"]) fun _ _ _ _ _ _ us hl => match us, hl with | [_, _], _ => rfl)⟩
  have g_steps_open : FnG P w K mg base 1 "steps_open" ["plans", "came", "heard"] spOpen := ⟨_, _, ok_open t_steps_open.2.2 T, PySem.W.mg_of X G t_steps_open.1, t_steps_open.2.1, t_steps_open.2.2.binds (ps := ["plans", "came", "heard"]) fun _ _ _ _ _ _ us hl => match us, hl with | [_, _, _], _ => rfl⟩
  have g_key_behind : FnG P w K mg base 1 "key_behind" ["came", "heard", "step"] spKeyB := ⟨_, _, ok_key t_key_behind.2.2 , PySem.W.mg_of X G t_key_behind.1, t_key_behind.2.1, t_key_behind.2.2.binds (ps := ["came", "heard", "step"]) fun _ _ _ _ _ _ us hl => match us, hl with | [_, _, _], _ => rfl⟩
  have g_grown : FnG P w K mg base 2 "grown" ["plans", "layer"] (spGrown P w) := ⟨_, _, ok_grown t_grown.2.2 T g_steps_open g_key_behind, PySem.W.mg_of X G t_grown.1, t_grown.2.1, t_grown.2.2.binds (ps := ["plans", "layer"]) fun _ _ _ _ _ _ us hl => match us, hl with | [_, _], _ => rfl⟩
  have g_line_behind : FnG P w K mg base 8 "line_behind" ["line", "plans", "steps"] spLineB := ⟨_, _, ok_line t_line_behind.2.2 T k_yard m_choose m_come_to m_shown_at, PySem.W.mg_of X G t_line_behind.1, t_line_behind.2.1, t_line_behind.2.2.binds (ps := ["line", "plans", "steps"]) fun _ _ _ _ _ _ us hl => match us, hl with | [_, _, _], _ => rfl⟩
  have g_runs_of : FnG P w K mg base 9 "runs_of" ["line", "plans"] spRuns := ⟨_, _, ok_runs t_runs_of.2.2 T g_grown g_line_behind, PySem.W.mg_of X G t_runs_of.1, t_runs_of.2.1, t_runs_of.2.2.binds (ps := ["line", "plans"]) fun _ _ _ _ _ _ us hl => match us, hl with | [_, _], _ => rfl⟩
  have g__law_mixed : FnG P w K mg base 1 "_law_mixed" ["cell", "k"] spMixed := ⟨_, _, ok_mixed t__law_mixed.2.2 , PySem.W.mg_of X G t__law_mixed.1, t__law_mixed.2.1, t__law_mixed.2.2.binds (ps := ["cell", "k"]) fun _ _ _ _ _ _ us hl => match us, hl with | [_, _], _ => rfl⟩
  have g__law_pot : FnG P w K mg base 1 "_law_pot" ["cell"] spPot := ⟨_, _, ok_pot t__law_pot.2.2 T, PySem.W.mg_of X G t__law_pot.1, t__law_pot.2.1, t__law_pot.2.2.binds (ps := ["cell"]) fun _ _ _ _ _ _ us hl => match us, hl with | [_], _ => rfl⟩
  have g__law_take : FnG P w K mg base 2 "_law_take" ["pot", "many"] spTake := ⟨_, _, ok_take t__law_take.2.2 g__law_mixed, PySem.W.mg_of X G t__law_take.1, t__law_take.2.1, t__law_take.2.2.binds (ps := ["pot", "many"]) fun _ _ _ _ _ _ us hl => match us, hl with | [_, _], _ => rfl⟩
  have g__law_sign : FnG P w K mg base 3 "_law_sign" ["pot"] spLSign := ⟨_, _, ok_lsign t__law_sign.2.2 g__law_take, PySem.W.mg_of X G t__law_sign.1, t__law_sign.2.1, t__law_sign.2.2.binds (ps := ["pot"]) fun _ _ _ _ _ _ us hl => match us, hl with | [_], _ => rfl⟩
  have g__law_plans : FnG P w K mg base 4 "_law_plans" ["pot", "most"] spPlans := ⟨_, _, ok_plans t__law_plans.2.2 T g__law_take g__law_sign, PySem.W.mg_of X G t__law_plans.1, t__law_plans.2.1, t__law_plans.2.2.binds (ps := ["pot", "most"]) fun _ _ _ _ _ _ us hl => match us, hl with | [_, _], _ => rfl⟩
  have g__law_short_line : FnG P w K mg base 4 "_law_short_line" ["pot"] spShort := ⟨_, _, ok_short t__law_short_line.2.2 T g__law_take g__law_sign, PySem.W.mg_of X G t__law_short_line.1, t__law_short_line.2.1, t__law_short_line.2.2.binds (ps := ["pot"]) fun _ _ _ _ _ _ us hl => match us, hl with | [_], _ => rfl⟩
  have g__law_holds : FnG P w K mg base 1 "_law_holds" ["line", "part"] spHolds := ⟨_, _, ok_holds t__law_holds.2.2 T, PySem.W.mg_of X G t__law_holds.1, t__law_holds.2.1, t__law_holds.2.2.binds (ps := ["line", "part"]) fun _ _ _ _ _ _ us hl => match us, hl with | [_, _], _ => rfl⟩
  have g__law_alone_right : FnG P w K mg base 10 "_law_alone_right" ["pot", "line", "plan"] spAlone := ⟨_, _, ok_alone t__law_alone_right.2.2 T g__law_take g_runs_of k_yard m_choose m_shown_at, PySem.W.mg_of X G t__law_alone_right.1, t__law_alone_right.2.1, t__law_alone_right.2.2.binds (ps := ["pot", "line", "plan"]) fun _ _ _ _ _ _ us hl => match us, hl with | [_, _, _], _ => rfl⟩
  have g__law_of : FnG P w K mg base 1 "_law_of" ["kind", "plans"] spLawOf := ⟨_, _, ok_law_of t__law_of.2.2 , PySem.W.mg_of X G t__law_of.1, t__law_of.2.1, t__law_of.2.2.binds (ps := ["kind", "plans"]) fun _ _ _ _ _ _ us hl => match us, hl with | [_, _], _ => rfl⟩
  have g__law_puts_right : FnG P w K mg base 10 "_law_puts_right" ["line", "plans"] spPuts := ⟨_, _, ok_puts t__law_puts_right.2.2 T g_runs_of g__law_holds, PySem.W.mg_of X G t__law_puts_right.1, t__law_puts_right.2.1, t__law_puts_right.2.2.binds (ps := ["line", "plans"]) fun _ _ _ _ _ _ us hl => match us, hl with | [_, _], _ => rfl⟩
  have g__law_cuts_right : FnG P w K mg base 10 "_law_cuts_right" ["line", "plans"] spCuts := ⟨_, _, ok_cuts t__law_cuts_right.2.2 T g_runs_of g__law_holds, PySem.W.mg_of X G t__law_cuts_right.1, t__law_cuts_right.2.1, t__law_cuts_right.2.2.binds (ps := ["line", "plans"]) fun _ _ _ _ _ _ us hl => match us, hl with | [_, _], _ => rfl⟩
  have g__law_both_right : FnG P w K mg base 10 "_law_both_right" ["line", "plans"] spBoth := ⟨_, _, ok_both t__law_both_right.2.2 T g_runs_of, PySem.W.mg_of X G t__law_both_right.1, t__law_both_right.2.1, t__law_both_right.2.2.binds (ps := ["line", "plans"]) fun _ _ _ _ _ _ us hl => match us, hl with | [_, _], _ => rfl⟩
  exact ok_law t_law.2.2 T g__law_pot g__law_take g__law_short_line g__law_plans g__law_alone_right g__law_of g__law_puts_right g__law_cuts_right g__law_both_right

theorem law_fd {K : PySem.W.Frag} {f : Addr} {fd : FuncData} (t : TopF K "law" sLaw f fd) : ∀ (s : Shared) (v : Value), BindsTo s fd ⟨[v], []⟩ [("script", v)] := by
  obtain ⟨⟨oc, od, kV, doc, pm, an, cdv, ct, osl, rfl, l, c⟩, k⟩ := t.2.2
  exact fun s v => .of_eq rfl
theorem walk {l : PySem.W.OpenLaw} {q : Program} {loose : List Str} {XP : (Str → Option Value) → Heap → Prop} {YP : World → Heap → Prop} {d : DefRec} {K : Params → PySem.W.Frag} (hn : l.most = some 63) (hdf : d.params.defaults = [])
    (hY : ∀ (w : World) (h : Heap), YP w h → (K w.params).In h)
    (F : ∀ (w : World) (mg : Str → Option Value) (fa : Addr) (h : Heap), (K w.params).In h → h.Ns mainGlobals mg → mg d.name = some (.ref fa) →
      ∃ fd : FuncData, (∀ (s : Shared) (u : Value), BindsTo s fd ⟨[u], []⟩ [("script", u)]) ∧ ∀ base : Heap, (K w.params).In base → base.Ns mainGlobals mg → FnOk l.prog w (K w.params) mg base CX0 11 fa fd ["script"] (spLaw (K w.params))) :
    PySem.W.WalkO q loose XP YP l.row.toRowW d [] (fun f vs => PySem.call f vs) :=
  L2.walk_of (n := 63) (k := 11) (x := "script") (CX := fun _ => CX0) (sp := fun w => spLaw (K w.params)) hn (by decide) hdf ⟨rfl, by decide, by decide⟩ hY F (fun _ _ a ns hl _ hS => ⟨a, ns, rfl, hS, hl, fun _ => rfl⟩) fun _ _ _ _ _ z => z
end Far
end

section
set_option linter.all false
open PySem PySem.W PyProof.Rows
set_option maxRecDepth 100000 in
set_option maxHeartbeats 0 in
theorem PySem.Challenge.cw_farline_k47_whole_what_lines_can_be_holds : PySem.Challenge.rw_farline_k47_whole_what_lines_can_be.Holds := by
  w_on; o_law; k_head; (case hw => w_witness2)
  k_fill
  refine Far.walk (l := PySem.Challenge.rw_farline_k47_whole_what_lines_can_be) rfl rfl (fun w h Y => PySem.W.kIn_of Y) ?F
  case F =>
    intro w mg fa h KX G hmg
    refine' Far.txt_k (w := w) KX G ?n_isinstance ?n_int ?n_str ?n_bool ?n_tuple ?n_len ?n_range ?n_list ?n_sorted ?n_sum ?n_max ?n_min ?n_enumerate ?vSG ?vPA ?lPA ?kPA ?pPut ?pCut ?pNon ?lowPA ?vS ?pgS ?hdS ?poS ?saS ?mkS ?kcS ?vY ?pgY ?hdY ?poY ?saY ?mkY ?kcY ?no_ahead ?no_text ?no_many_made ?no_many_taken ?no_heard ?no_waiting ?no_own_mark ?no_far_mark ?no_seats ?no_roads ?cont
    (case n_isinstance => k_is)
    (case n_int => k_is)
    (case n_str => k_is)
    (case n_bool => k_is)
    (case n_tuple => k_is)
    (case n_len => k_is)
    (case n_range => k_is)
    (case n_list => k_is)
    (case n_sorted => k_is)
    (case n_sum => k_is)
    (case n_max => k_is)
    (case n_min => k_is)
    (case n_enumerate => k_is)
    (case vSG => k_is)
    (case vPA => k_is)
    (case lPA => k_is)
    (case kPA => k_keys)
    (case pPut => k_is)
    (case pCut => k_is)
    (case pNon => k_is)
    (case lowPA => decide)
    (case vS => k_is)
    (case pgS => k_is)
    (case hdS => k_is)
    (case poS => k_is)
    (case saS => k_is)
    (case mkS => k_is)
    (case kcS => k_is)
    (case vY => k_is)
    (case pgY => k_is)
    (case hdY => k_is)
    (case poY => k_is)
    (case saY => k_is)
    (case mkY => k_is)
    (case kcY => k_is)
    (case no_ahead => k_is)
    (case no_text => k_is)
    (case no_many_made => k_is)
    (case no_many_taken => k_is)
    (case no_heard => k_is)
    (case no_waiting => k_is)
    (case no_own_mark => k_is)
    (case no_far_mark => k_is)
    (case no_seats => k_is)
    (case no_roads => k_is)
    intro T cfS cfY
    refine' Far.topF_k (x := "is_sign") (st := Far.sIsSign) KX ?a_is_sign ?l_is_sign ?c_is_sign ?k_is_sign ?z_is_sign
    (case a_is_sign => k_is)
    (case l_is_sign => k_is)
    (case c_is_sign => k_is)
    (case k_is_sign => k_is)
    intro t_is_sign
    refine' Far.topF_k (x := "is_place") (st := Far.sIsPlace) KX ?a_is_place ?l_is_place ?c_is_place ?k_is_place ?z_is_place
    (case a_is_place => k_is)
    (case l_is_place => k_is)
    (case c_is_place => k_is)
    (case k_is_place => k_is)
    intro t_is_place
    refine' Far.topF_k (x := "is_whole") (st := Far.sIsWhole) KX ?a_is_whole ?l_is_whole ?c_is_whole ?k_is_whole ?z_is_whole
    (case a_is_whole => k_is)
    (case l_is_whole => k_is)
    (case c_is_whole => k_is)
    (case k_is_whole => k_is)
    intro t_is_whole
    refine' Far.topF_k (x := "is_deed") (st := Far.sIsDeed) KX ?a_is_deed ?l_is_deed ?c_is_deed ?k_is_deed ?z_is_deed
    (case a_is_deed => k_is)
    (case l_is_deed => k_is)
    (case c_is_deed => k_is)
    (case k_is_deed => k_is)
    intro t_is_deed
    refine' Far.topF_k (x := "can_be_done") (st := Far.sCan) KX ?a_can_be_done ?l_can_be_done ?c_can_be_done ?k_can_be_done ?z_can_be_done
    (case a_can_be_done => k_is)
    (case l_can_be_done => k_is)
    (case c_can_be_done => k_is)
    (case k_can_be_done => k_is)
    intro t_can_be_done
    refine' Far.topF_k (x := "done") (st := Far.sDone) KX ?a_done ?l_done ?c_done ?k_done ?z_done
    (case a_done => k_is)
    (case l_done => k_is)
    (case c_done => k_is)
    (case k_done => k_is)
    intro t_done
    refine' Far.topF_k (x := "moved") (st := Far.sMoved) KX ?a_moved ?l_moved ?c_moved ?k_moved ?z_moved
    (case a_moved => k_is)
    (case l_moved => k_is)
    (case c_moved => k_is)
    (case k_moved => k_is)
    intro t_moved
    refine' Far.topF_k (x := "mark_moved") (st := Far.sMark) KX ?a_mark_moved ?l_mark_moved ?c_mark_moved ?k_mark_moved ?z_mark_moved
    (case a_mark_moved => k_is)
    (case l_mark_moved => k_is)
    (case c_mark_moved => k_is)
    (case k_mark_moved => k_is)
    intro t_mark_moved
    refine' Far.topF_k (x := "moved_behind") (st := Far.sMovedB) KX ?a_moved_behind ?l_moved_behind ?c_moved_behind ?k_moved_behind ?z_moved_behind
    (case a_moved_behind => k_is)
    (case l_moved_behind => k_is)
    (case c_moved_behind => k_is)
    (case k_moved_behind => k_is)
    intro t_moved_behind
    refine' Far.topF_k (x := "rows_moved") (st := Far.sRowsM) KX ?a_rows_moved ?l_rows_moved ?c_rows_moved ?k_rows_moved ?z_rows_moved
    (case a_rows_moved => k_is)
    (case l_rows_moved => k_is)
    (case c_rows_moved => k_is)
    (case k_rows_moved => k_is)
    intro t_rows_moved
    refine' Far.topF_k (x := "is_letter") (st := Far.sIsLetter) KX ?a_is_letter ?l_is_letter ?c_is_letter ?k_is_letter ?z_is_letter
    (case a_is_letter => k_is)
    (case l_is_letter => k_is)
    (case c_is_letter => k_is)
    (case k_is_letter => k_is)
    intro t_is_letter
    refine' Far.topF_k (x := "is_seat") (st := Far.sIsSeat) KX ?a_is_seat ?l_is_seat ?c_is_seat ?k_is_seat ?z_is_seat
    (case a_is_seat => k_is)
    (case l_is_seat => k_is)
    (case c_is_seat => k_is)
    (case k_is_seat => k_is)
    intro t_is_seat
    refine' Far.topF_k (x := "need_seat") (st := Far.sNeed) KX ?a_need_seat ?l_need_seat ?c_need_seat ?k_need_seat ?z_need_seat
    (case a_need_seat => k_is)
    (case l_need_seat => k_is)
    (case c_need_seat => k_is)
    (case k_need_seat => k_is)
    intro t_need_seat
    refine' Far.mthF_k (m := "past") (q := "Seat.past") (st := Far.sPast) KX cfS ?a_past ?i_past ?l_past ?c_past ?k_past ?z_past
    (case a_past => k_is)
    (case i_past => k_is)
    (case l_past => k_is)
    (case c_past => k_is)
    (case k_past => k_is)
    intro t_past
    refine' Far.mthF_k (m := "make_in") (q := "Seat.make_in") (st := Far.sMakeIn) KX cfS ?a_make_in ?i_make_in ?l_make_in ?c_make_in ?k_make_in ?z_make_in
    (case a_make_in => k_is)
    (case i_make_in => k_is)
    (case l_make_in => k_is)
    (case c_make_in => k_is)
    (case k_make_in => k_is)
    intro t_make_in
    refine' Far.mthF_k (m := "take_in") (q := "Seat.take_in") (st := Far.sTakeIn) KX cfS ?a_take_in ?i_take_in ?l_take_in ?c_take_in ?k_take_in ?z_take_in
    (case a_take_in => k_is)
    (case i_take_in => k_is)
    (case l_take_in => k_is)
    (case c_take_in => k_is)
    (case k_take_in => k_is)
    intro t_take_in
    refine' Far.mthF_k (m := "shown") (q := "Seat.shown") (st := Far.sShown) KX cfS ?a_shown ?i_shown ?l_shown ?c_shown ?k_shown ?z_shown
    (case a_shown => k_is)
    (case i_shown => k_is)
    (case l_shown => k_is)
    (case c_shown => k_is)
    (case k_shown => k_is)
    intro t_shown
    refine' Far.mthF_k (m := "__init__") (q := "Seat.__init__") (st := Far.sSeatInit) KX cfS ?a_seat ?i_seat ?l_seat ?c_seat ?k_seat ?z_seat
    (case a_seat => k_is)
    (case i_seat => k_is)
    (case l_seat => k_is)
    (case c_seat => k_is)
    (case k_seat => k_is)
    intro t_seat
    refine' Far.mthF_k (m := "make_at") (q := "Yard.make_at") (st := Far.sMakeAt) KX cfY ?a_make_at ?i_make_at ?l_make_at ?c_make_at ?k_make_at ?z_make_at
    (case a_make_at => k_is)
    (case i_make_at => k_is)
    (case l_make_at => k_is)
    (case c_make_at => k_is)
    (case k_make_at => k_is)
    intro t_make_at
    refine' Far.mthF_k (m := "come_to") (q := "Yard.come_to") (st := Far.sComeTo) KX cfY ?a_come_to ?i_come_to ?l_come_to ?c_come_to ?k_come_to ?z_come_to
    (case a_come_to => k_is)
    (case i_come_to => k_is)
    (case l_come_to => k_is)
    (case c_come_to => k_is)
    (case k_come_to => k_is)
    intro t_come_to
    refine' Far.mthF_k (m := "shown_at") (q := "Yard.shown_at") (st := Far.sShownAt) KX cfY ?a_shown_at ?i_shown_at ?l_shown_at ?c_shown_at ?k_shown_at ?z_shown_at
    (case a_shown_at => k_is)
    (case i_shown_at => k_is)
    (case l_shown_at => k_is)
    (case c_shown_at => k_is)
    (case k_shown_at => k_is)
    intro t_shown_at
    refine' Far.mthF_k (m := "__init__") (q := "Yard.__init__") (st := Far.sYardInit) KX cfY ?a_yard ?i_yard ?l_yard ?c_yard ?k_yard ?z_yard
    (case a_yard => k_is)
    (case i_yard => k_is)
    (case l_yard => k_is)
    (case c_yard => k_is)
    (case k_yard => k_is)
    intro t_yard
    refine' Far.topF_k (x := "chosen") (st := Far.sChosen) KX ?a_chosen ?l_chosen ?c_chosen ?k_chosen ?z_chosen
    (case a_chosen => k_is)
    (case l_chosen => k_is)
    (case c_chosen => k_is)
    (case k_chosen => k_is)
    intro t_chosen
    refine' Far.mthF_k (m := "choose") (q := "Yard.choose") (st := Far.sChoose) KX cfY ?a_choose ?i_choose ?l_choose ?c_choose ?k_choose ?z_choose
    (case a_choose => k_is)
    (case i_choose => k_is)
    (case l_choose => k_is)
    (case c_choose => k_is)
    (case k_choose => k_is)
    intro t_choose
    refine' Far.topF_k (x := "steps_open") (st := Far.sOpen) KX ?a_steps_open ?l_steps_open ?c_steps_open ?k_steps_open ?z_steps_open
    (case a_steps_open => k_is)
    (case l_steps_open => k_is)
    (case c_steps_open => k_is)
    (case k_steps_open => k_is)
    intro t_steps_open
    refine' Far.topF_k (x := "key_behind") (st := Far.sKeyB) KX ?a_key_behind ?l_key_behind ?c_key_behind ?k_key_behind ?z_key_behind
    (case a_key_behind => k_is)
    (case l_key_behind => k_is)
    (case c_key_behind => k_is)
    (case k_key_behind => k_is)
    intro t_key_behind
    refine' Far.topF_k (x := "grown") (st := Far.sGrown) KX ?a_grown ?l_grown ?c_grown ?k_grown ?z_grown
    (case a_grown => k_is)
    (case l_grown => k_is)
    (case c_grown => k_is)
    (case k_grown => k_is)
    intro t_grown
    refine' Far.topF_k (x := "line_behind") (st := Far.sLineB) KX ?a_line_behind ?l_line_behind ?c_line_behind ?k_line_behind ?z_line_behind
    (case a_line_behind => k_is)
    (case l_line_behind => k_is)
    (case c_line_behind => k_is)
    (case k_line_behind => k_is)
    intro t_line_behind
    refine' Far.topF_k (x := "runs_of") (st := Far.sRuns) KX ?a_runs_of ?l_runs_of ?c_runs_of ?k_runs_of ?z_runs_of
    (case a_runs_of => k_is)
    (case l_runs_of => k_is)
    (case c_runs_of => k_is)
    (case k_runs_of => k_is)
    intro t_runs_of
    refine' Far.topF_k (x := "_law_mixed") (st := Far.sMixed) KX ?a__law_mixed ?l__law_mixed ?c__law_mixed ?k__law_mixed ?z__law_mixed
    (case a__law_mixed => k_is)
    (case l__law_mixed => k_is)
    (case c__law_mixed => k_is)
    (case k__law_mixed => k_is)
    intro t__law_mixed
    refine' Far.topF_k (x := "_law_pot") (st := Far.sPot) KX ?a__law_pot ?l__law_pot ?c__law_pot ?k__law_pot ?z__law_pot
    (case a__law_pot => k_is)
    (case l__law_pot => k_is)
    (case c__law_pot => k_is)
    (case k__law_pot => k_is)
    intro t__law_pot
    refine' Far.topF_k (x := "_law_take") (st := Far.sTake) KX ?a__law_take ?l__law_take ?c__law_take ?k__law_take ?z__law_take
    (case a__law_take => k_is)
    (case l__law_take => k_is)
    (case c__law_take => k_is)
    (case k__law_take => k_is)
    intro t__law_take
    refine' Far.topF_k (x := "_law_sign") (st := Far.sLSign) KX ?a__law_sign ?l__law_sign ?c__law_sign ?k__law_sign ?z__law_sign
    (case a__law_sign => k_is)
    (case l__law_sign => k_is)
    (case c__law_sign => k_is)
    (case k__law_sign => k_is)
    intro t__law_sign
    refine' Far.topF_k (x := "_law_plans") (st := Far.sPlans) KX ?a__law_plans ?l__law_plans ?c__law_plans ?k__law_plans ?z__law_plans
    (case a__law_plans => k_is)
    (case l__law_plans => k_is)
    (case c__law_plans => k_is)
    (case k__law_plans => k_is)
    intro t__law_plans
    refine' Far.topF_k (x := "_law_short_line") (st := Far.sShort) KX ?a__law_short_line ?l__law_short_line ?c__law_short_line ?k__law_short_line ?z__law_short_line
    (case a__law_short_line => k_is)
    (case l__law_short_line => k_is)
    (case c__law_short_line => k_is)
    (case k__law_short_line => k_is)
    intro t__law_short_line
    refine' Far.topF_k (x := "_law_holds") (st := Far.sHolds) KX ?a__law_holds ?l__law_holds ?c__law_holds ?k__law_holds ?z__law_holds
    (case a__law_holds => k_is)
    (case l__law_holds => k_is)
    (case c__law_holds => k_is)
    (case k__law_holds => k_is)
    intro t__law_holds
    refine' Far.topF_k (x := "_law_alone_right") (st := Far.sAlone) KX ?a__law_alone_right ?l__law_alone_right ?c__law_alone_right ?k__law_alone_right ?z__law_alone_right
    (case a__law_alone_right => k_is)
    (case l__law_alone_right => k_is)
    (case c__law_alone_right => k_is)
    (case k__law_alone_right => k_is)
    intro t__law_alone_right
    refine' Far.topF_k (x := "_law_of") (st := Far.sLawOf) KX ?a__law_of ?l__law_of ?c__law_of ?k__law_of ?z__law_of
    (case a__law_of => k_is)
    (case l__law_of => k_is)
    (case c__law_of => k_is)
    (case k__law_of => k_is)
    intro t__law_of
    refine' Far.topF_k (x := "_law_puts_right") (st := Far.sPuts) KX ?a__law_puts_right ?l__law_puts_right ?c__law_puts_right ?k__law_puts_right ?z__law_puts_right
    (case a__law_puts_right => k_is)
    (case l__law_puts_right => k_is)
    (case c__law_puts_right => k_is)
    (case k__law_puts_right => k_is)
    intro t__law_puts_right
    refine' Far.topF_k (x := "_law_cuts_right") (st := Far.sCuts) KX ?a__law_cuts_right ?l__law_cuts_right ?c__law_cuts_right ?k__law_cuts_right ?z__law_cuts_right
    (case a__law_cuts_right => k_is)
    (case l__law_cuts_right => k_is)
    (case c__law_cuts_right => k_is)
    (case k__law_cuts_right => k_is)
    intro t__law_cuts_right
    refine' Far.topF_k (x := "_law_both_right") (st := Far.sBoth) KX ?a__law_both_right ?l__law_both_right ?c__law_both_right ?k__law_both_right ?z__law_both_right
    (case a__law_both_right => k_is)
    (case l__law_both_right => k_is)
    (case c__law_both_right => k_is)
    (case k__law_both_right => k_is)
    intro t__law_both_right
    refine' Far.topF_k (x := "law") (st := Far.sLaw) KX ?a_law ?l_law ?c_law ?k_law ?z_law
    (case a_law => k_is)
    (case l_law => k_is)
    (case c_law => k_is)
    (case k_law => k_is)
    intro t_law
    exact ⟨_, Far.law_fd t_law, fun base _ _ => Far.finish KX G hmg T cfS cfY t_is_sign t_is_place t_is_whole t_is_deed t_can_be_done t_done t_moved t_mark_moved t_moved_behind t_rows_moved t_is_letter t_is_seat t_need_seat t_past t_make_in t_take_in t_shown t_seat t_make_at t_come_to t_shown_at t_yard t_chosen t_choose t_steps_open t_key_behind t_grown t_line_behind t_runs_of t__law_mixed t__law_pot t__law_take t__law_sign t__law_plans t__law_short_line t__law_holds t__law_alone_right t__law_of t__law_puts_right t__law_cuts_right t__law_both_right t_law⟩
end
