import PyProof.Rows.All
import HandS.Text
import PyProof.Rows.StrCountLaw
import Wide.All
import OpenK.AllK
import Wide.FinOn
import HandS.ForMost
import HandS.Exc
import HandS.TryOnly
import HandS.ExcOwn
import HandS.WordsExc
import HandS.IsInst
import HandS.ExcInit
import HandS.ExcField
import HandS.StrMore
import HandS.HotCalls
import HandS.Steps
import HandS.Evl
import HandS.Iter
import HandS.RaiseFrom
import HandS.ExcInitHot
import KE.KExcInit
import KE.KStateDown
import Lean
import HandS.Defaults
import HandS.Head0
import HandS.Head1
import HandS.Head2
import HandS.HeadEnd
import HandS.HeadHook1
import HandS.HeadHook2
import HandS.HeadHook3
import HandS.HeadHook4
import PySem.Challenge.RW_sureplan_k85_tokens_and_places
import HandS.Walk
set_option Elab.async false
set_option linter.all false
set_option maxRecDepth 100000
set_option maxHeartbeats 0
/-! Plain facts about texts as lists of code points: places, lines, the scanner. -/
namespace Sure
open PySem TL

/-! ### places -/
/-- how many line feeds -/
def nls : List Nat → Nat
  | [] => 0
  | c :: r => (if c = 10 then 1 else 0) + nls r
/-- how many signs behind the last line feed -/
def tail10 : List Nat → Nat
  | [] => 0
  | c :: r => if nls r = 0 then (if c = 10 then r.length else r.length + 1) else tail10 r
theorem nls_app : ∀ a b : List Nat, nls (a ++ b) = nls a + nls b
  | [], b => by simp [nls]
  | c :: a, b => by simp only [List.cons_append, nls, nls_app a b]; omega
theorem tail10_none : ∀ l : List Nat, nls l = 0 → tail10 l = l.length
  | [], _ => rfl
  | c :: r, h => by
    simp only [nls] at h
    have h1 : nls r = 0 := by omega
    have h2 : ¬ c = 10 := fun e => by rw [if_pos e] at h; omega
    simp only [tail10, if_pos h1, if_neg h2, List.length_cons]
theorem tail10_app : ∀ a b : List Nat, tail10 (a ++ b) = if nls b = 0 then tail10 a + b.length else tail10 b
  | [], b => by
    by_cases h : nls b = 0
    · rw [if_pos h, List.nil_append, tail10_none b h]; simp [tail10]
    · rw [if_neg h, List.nil_append]
  | c :: a, b => by
    have ih := tail10_app a b
    simp only [List.cons_append, tail10, nls_app]
    by_cases h : nls b = 0
    · rw [if_pos h] at ih ⊢
      by_cases h1 : nls a = 0
      · rw [if_pos (by omega), if_pos h1]
        by_cases h2 : c = 10
        · rw [if_pos h2, if_pos h2, List.length_append]
        · rw [if_neg h2, if_neg h2, List.length_append]; omega
      · rw [if_neg (by omega), if_neg h1, ih]
    · rw [if_neg h] at ih ⊢
      rw [if_neg (by omega), ih]
theorem tail10_le : ∀ l : List Nat, tail10 l ≤ l.length
  | [] => Nat.le_refl _
  | c :: r => by
    have := tail10_le r
    simp only [tail10, List.length_cons]
    split
    · split <;> omega
    · omega
theorem nls_zero : ∀ l : List Nat, (∀ c ∈ l, c ≠ 10) → nls l = 0
  | [], _ => rfl
  | c :: r, h => by
    simp only [nls, if_neg (h c List.mem_cons_self), nls_zero r fun d hd => h d (List.mem_cons_of_mem _ hd)]
/-- the place behind a text: line and column -/
def lineOf (l : List Nat) : Int := 1 + (nls l : Int)
def colOf (l : List Nat) : Int := 1 + (tail10 l : Int)
theorem lineOf_snoc (l : List Nat) (c : Nat) : lineOf (l ++ [c]) = if c = 10 then lineOf l + 1 else lineOf l := by
  unfold lineOf
  rw [nls_app]
  by_cases h : c = 10
  · simp [nls, h]; omega
  · simp [nls, h]
theorem colOf_snoc (l : List Nat) (c : Nat) : colOf (l ++ [c]) = if c = 10 then 1 else colOf l + 1 := by
  unfold colOf
  rw [tail10_app]
  by_cases h : c = 10
  · simp [nls, tail10, h]
  · simp [nls, h]; omega
theorem lineOf_app {a b : List Nat} (h : nls b = 0) : lineOf (a ++ b) = lineOf a := by unfold lineOf; rw [nls_app, h]; simp
theorem colOf_app {a b : List Nat} (h : nls b = 0) : colOf (a ++ b) = colOf a + b.length := by unfold colOf; rw [tail10_app, if_pos h]; omega

/-! ### count, rfind, split by a line feed -/
abbrev NLS : Str := ⟨#[10]⟩
theorem cnt_nls : ∀ l : List Nat, PyProof.Rows.cnt 10 l = (nls l : Int)
  | [] => rfl
  | c :: r => by
    rw [PyProof.Rows.cnt_cons, cnt_nls r]
    simp only [nls]
    by_cases h : c = 10
    · simp [h]
    · simp [h]
theorem count_nl (x : Str) : Txt.count x NLS = (nls (tl x) : Int) := by
  rw [PyProof.Rows.count_is x 10]
  exact cnt_nls (tl x)
theorem at_one {x : Str} {i : Nat} : StrLaws.At x NLS x.length i ↔ (tl x)[i]? = some 10 := by
  constructor
  · intro h
    exact (StrLaws.subAt_one x 10 i).mp h
  · intro h
    exact (StrLaws.subAt_one x 10 i).mpr h
theorem tail10_last : ∀ (l : List Nat) (i : Nat), l[i]? = some 10 → (∀ k, i < k → l[k]? ≠ some 10) → tail10 l + (i + 1) = l.length
  | [], i, h, _ => by simp at h
  | c :: r, 0, h, hn => by
    have e : c = 10 := by simpa using h
    have h0 : nls r = 0 := nls_zero r fun d hd he => by
      obtain ⟨j, hj, e2⟩ := List.mem_iff_getElem.mp hd
      exact hn (j + 1) (by omega) (by rw [List.getElem?_cons_succ, List.getElem?_eq_getElem hj, e2, he])
    simp only [tail10, if_pos h0, if_pos e, List.length_cons]
  | c :: r, i + 1, h, hn => by
    have h' : r[i]? = some 10 := by simpa using h
    have ih := tail10_last r i h' fun k hk => by
      have := hn (k + 1) (by omega)
      simpa using this
    have hne : nls r ≠ 0 := fun z => by
      have hm : (10 : Nat) ∈ r := List.mem_of_getElem? h'
      have : ∀ (l : List Nat), (10 : Nat) ∈ l → nls l ≠ 0 := by
        intro l
        induction l with
        | nil => intro q; simp at q
        | cons d s ihs =>
          intro q
          simp only [nls]
          rcases List.mem_cons.mp q with q | q
          · rw [if_pos q.symm]; omega
          · have := ihs q; omega
      exact this r hm z
    simp only [tail10, if_neg hne, List.length_cons]
    omega
theorem rfind_nl (x : Str) : (x.length : Int) - Txt.rfind x NLS = 1 + (tail10 (tl x) : Int) := by
  unfold Txt.rfind
  rcases StrLaws.last_spec x NLS with ⟨e, h⟩ | ⟨i, e, h1, h2⟩
  · rw [e]
    have h0 : nls (tl x) = 0 := nls_zero _ fun d hd he => by
      obtain ⟨j, hj, e2⟩ := List.mem_iff_getElem.mp hd
      exact h j (at_one.mpr (by rw [List.getElem?_eq_getElem hj, e2, he]))
    rw [tail10_none _ h0, len_tl x]
    show ((tl x).length : Int) - (-1) = _
    omega
  · rw [e]
    have q := tail10_last (tl x) i (at_one.mp h1) fun k hk z => h2 k hk (at_one.mpr z)
    rw [len_tl x]
    show ((tl x).length : Int) - (i : Int) = _
    omega
theorem place_line (x : Str) : 1 + Txt.count x NLS = lineOf (tl x) := by rw [count_nl]; rfl
theorem place_col (x : Str) : (x.length : Int) - Txt.rfind x NLS = colOf (tl x) := rfind_nl x
/-- the lines -/
def lns : List Nat → List (List Nat)
  | [] => [[]]
  | c :: r => if c = 10 then [] :: lns r else match lns r with
    | [] => [[c]]
    | h :: t => (c :: h) :: t
theorem lns_ne : ∀ l, lns l ≠ []
  | [] => by simp [lns]
  | c :: r => by
    simp only [lns]
    split
    · simp
    · split <;> simp
theorem spl_lns : ∀ (l acc : List Nat), spl [10] 0 acc l = match lns l with
    | [] => []
    | h :: t => (acc ++ h) :: t
  | [], acc => by simp [lns, spl_nil]
  | c :: r, acc => by
    by_cases h : c = 10
    · have hp : pre [10] (c :: r) = true := by rw [h]; exact pre_self [10] r
      rw [spl_hit hp]
      have ih := spl_lns r []
      show acc :: spl [10] 0 [] r = _
      rw [ih]
      simp only [lns, if_pos h, List.append_nil]
      cases hl : lns r with
      | nil => exact absurd hl (lns_ne r)
      | cons a b => simp
    · have hp : pre [10] (c :: r) = false := pre_of_head [] r h
      rw [spl_miss hp, spl_lns r (acc ++ [c])]
      simp only [lns, if_neg h]
      cases hl : lns r with
      | nil => exact absurd hl (lns_ne r)
      | cons a b => simp
theorem split_nl (x : Str) : (Txt.split x NLS).map tl = lns (tl x) := by
  rw [split_spl x NLS (by simp [tl]) (kind_ok (by decide +kernel))]
  show spl [10] 0 [] (tl x) = _
  rw [spl_lns]
  cases hl : lns (tl x) with
  | nil => exact absurd hl (lns_ne _)
  | cons a b => simp
theorem lns_len : ∀ l, (lns l).length = nls l + 1
  | [] => rfl
  | c :: r => by
    have ih := lns_len r
    simp only [lns, nls]
    by_cases h : c = 10
    · simp [h, ih]; omega
    · simp only [if_neg h]
      cases hl : lns r with
      | nil => exact absurd hl (lns_ne r)
      | cons a b => rw [hl] at ih; simpa using ih
theorem lns_last : ∀ l, ∃ z, (lns l).getLast? = some z ∧ z.length = tail10 l
  | [] => ⟨[], rfl, rfl⟩
  | c :: r => by
    obtain ⟨z, h1, h2⟩ := lns_last r
    have hlen := lns_len r
    simp only [lns, tail10]
    by_cases h : c = 10
    · rw [if_pos h]
      refine ⟨z, ?_, ?_⟩
      · cases hl : lns r with
        | nil => exact absurd hl (lns_ne r)
        | cons a b => rw [hl] at h1; rw [List.getLast?_cons_cons]; exact h1
      · by_cases h0 : nls r = 0
        · rw [if_pos h0, if_pos h, h2, tail10_none r h0]
        · rw [if_neg h0, h2]
    · rw [if_neg h]
      cases hl : lns r with
      | nil => exact absurd hl (lns_ne r)
      | cons a b =>
        rw [hl] at h1 hlen
        cases b with
        | nil =>
          have h0 : nls r = 0 := by simpa using hlen.symm
          have e : a = z := by simpa using h1
          refine ⟨c :: a, by simp, ?_⟩
          rw [if_pos h0, if_neg h, e, List.length_cons, h2, tail10_none r h0]
        | cons d s =>
          have h0 : nls r ≠ 0 := by intro q; rw [q] at hlen; simp at hlen
          refine ⟨z, ?_, by rw [if_neg h0, h2]⟩
          rw [List.getLast?_cons_cons] at h1 ⊢
          exact h1
/-- the signs ahead of a line -/
def sizes (ls : List (List Nat)) : Int := (ls.map fun l => ((l.length : Int) + 1)).sum
theorem sizes_cons (a : List Nat) (r : List (List Nat)) : sizes (a :: r) = (a.length : Int) + 1 + sizes r := by simp [sizes]
theorem lns_place : ∀ p q : List Nat, sizes ((lns (p ++ q)).take (nls p)) + (tail10 p : Int) = (p.length : Int)
  | [], q => by simp [nls, tail10, sizes]
  | c :: p, q => by
    have ih := lns_place p q
    simp only [List.cons_append, lns, nls, tail10, List.length_cons]
    by_cases h : c = 10
    · rw [if_pos h, if_pos h, if_pos h, Nat.add_comm 1, List.take_succ_cons, sizes_cons]
      by_cases h0 : nls p = 0
      · rw [if_pos h0]
        rw [h0] at ih
        rw [h0, List.take_zero] 
        rw [List.take_zero] at ih
        simp [sizes]
        omega
      · rw [if_neg h0]
        simp
        omega
    · rw [if_neg h, if_neg h, if_neg h, Nat.zero_add]
      cases hl : lns (p ++ q) with
      | nil => exact absurd hl (lns_ne _)
      | cons a b =>
        rw [hl] at ih
        by_cases h0 : nls p = 0
        · rw [if_pos h0, h0, List.take_zero]
          simp [sizes]
        · rw [if_neg h0]
          obtain ⟨k, hk⟩ : ∃ k, nls p = k + 1 := ⟨nls p - 1, by omega⟩
          rw [hk, List.take_succ_cons, sizes_cons] at ih ⊢
          simp only [List.length_cons]
          omega
end Sure

/-! The scanner as a plain machine over code points. -/
namespace Sure
open PySem TL

def blL : List Nat := [32, 10, 9]
def wdL : List Nat := [97, 98, 99, 100, 101, 102, 103, 104, 105, 106, 107, 108, 109, 110, 111, 112, 113, 114, 115, 116, 117, 118, 119, 120, 121, 122,
  65, 66, 67, 68, 69, 70, 71, 72, 73, 74, 75, 76, 77, 78, 79, 80, 81, 82, 83, 84, 85, 86, 87, 88, 89, 90, 48, 49, 50, 51, 52, 53, 54, 55, 56, 57, 95, 63, 45, 43, 42, 60, 62, 61]
def dlL : List Nat := [40, 41, 59]
def paL : List Nat := [40, 41]
def bl (c : Nat) : Bool := decide (c ∈ blL)
def dl (c : Nat) : Bool := decide (c ∈ dlL)
def pa (c : Nat) : Bool := decide (c ∈ paL)
def wc (c : Nat) : Bool := decide (c ∈ wdL)
theorem wc_facts : ∀ c, wc c = true → bl c = false ∧ dl c = false ∧ c ≠ 10 ∧ c < 256 := by
  have key : ∀ c ∈ wdL, bl c = false ∧ dl c = false ∧ c ≠ 10 ∧ c < 256 := by decide +kernel
  intro c h
  exact key c (of_decide_eq_true h)
theorem pa_dl : ∀ c, pa c = true → dl c = true := by
  have key : ∀ c ∈ paL, dl c = true := by decide +kernel
  intro c h
  exact key c (of_decide_eq_true h)
theorem semi_dl : dl 59 = true := by decide
theorem pa_cases {c : Nat} (h : pa c = true) : c = 40 ∨ c = 41 := by
  have q : c ∈ paL := of_decide_eq_true h
  simpa [paL] using q

structure Sc where
  found : List (List Nat × Int × Int)
  line : Int
  col : Int
  word : List Nat
  com : Bool
def nxt (c : Nat) (s : Sc) : Sc := if c = 10 then { s with line := s.line + 1, col := 1 } else { s with col := s.col + 1 }
def flushed (s : Sc) : List (List Nat × Int × Int) := if s.word = [] then s.found else s.found ++ [(s.word, s.line, s.col - (s.word.length : Int))]
def put (s : Sc) (c : Nat) : List (List Nat × Int × Int) := if (!s.com && pa c) = true then flushed s ++ [([c], s.line, s.col)] else flushed s
def sstep (s : Sc) (c : Nat) : Option Sc :=
  if (s.com || (bl c || dl c)) = true then some (nxt c { s with found := put s c, word := [], com := (s.com || c == 59) && c != 10 })
  else if wc c = true then some (nxt c { s with word := s.word ++ [c] })
  else none
def srun : Sc → List Nat → Sum (Int × Int) Sc
  | s, [] => .inr s
  | s, c :: r => match sstep s c with
    | none => .inl (s.line, s.col)
    | some t => srun t r
theorem srun_cons {s t : Sc} {c : Nat} {r : List Nat} (h : sstep s c = some t) : srun s (c :: r) = srun t r := by
  show (match sstep s c with
    | none => Sum.inl (s.line, s.col)
    | some t => srun t r) = _
  rw [h]
/-- the state's place is that behind p -/
def AtP (p : List Nat) (s : Sc) : Prop := s.line = lineOf p ∧ s.col = colOf p
theorem atP_nxt {p : List Nat} {s t : Sc} {c : Nat} (h : AtP p s) (e1 : t.line = s.line) (e2 : t.col = s.col) : AtP (p ++ [c]) (nxt c t) := by
  obtain ⟨h1, h2⟩ := h
  unfold nxt AtP
  rw [lineOf_snoc, colOf_snoc]
  by_cases hc : c = 10
  · simp only [if_pos hc]; exact ⟨by rw [e1, h1], trivial⟩
  · simp only [if_neg hc]; exact ⟨by rw [e1, h1], by rw [e2, h2]⟩
theorem nxt_found (c : Nat) (s : Sc) : (nxt c s).found = s.found := by unfold nxt; split <;> rfl
theorem nxt_word (c : Nat) (s : Sc) : (nxt c s).word = s.word := by unfold nxt; split <;> rfl
theorem nxt_com (c : Nat) (s : Sc) : (nxt c s).com = s.com := by unfold nxt; split <;> rfl

/-! ### gaps -/
def cm : Bool → List Nat → Option Bool
  | b, [] => some b
  | b, c :: r => if (b || (bl c || c == 59)) = true then cm ((b || c == 59) && c != 10) r else none
theorem run_gap : ∀ (g : List Nat) (b b' : Bool) (s : Sc) (r : List Nat), cm b g = some b' → s.word = [] → s.com = b →
    ∃ t, srun s (g ++ r) = srun t r ∧ t.found = s.found ∧ t.word = [] ∧ t.com = b' ∧ ∀ p, AtP p s → AtP (p ++ g) t
  | [], b, b', s, r, h, hw, hc => by
    have e : b = b' := Option.some.inj h
    exact ⟨s, rfl, rfl, hw, hc.trans e, fun p hp => by rw [List.append_nil]; exact hp⟩
  | c :: g, b, b', s, r, h, hw, hc => by
    have h' : (if (b || (bl c || c == 59)) = true then cm ((b || c == 59) && c != 10) g else none) = some b' := h
    by_cases hb : (b || (bl c || c == 59)) = true
    · rw [if_pos hb] at h'
      have hd : (s.com || (bl c || dl c)) = true := by
        rw [hc]
        cases b with
        | true => rfl
        | false =>
          rw [Bool.false_or] at hb ⊢
          rcases Bool.or_eq_true_iff.mp hb with q | q
          · rw [q]; rfl
          · have e : c = 59 := by simpa using q
            rw [e, semi_dl]; simp
      have hp : (!s.com && pa c) = false := by
        rw [hc]
        cases b with
        | true => rfl
        | false =>
          rw [Bool.false_or] at hb
          cases hpa : pa c with
          | false => rfl
          | true =>
            rcases pa_cases hpa with e | e <;> (rw [e] at hb; exact absurd hb (by decide))
      have hput : put s c = s.found := by
        unfold put flushed
        rw [if_neg (by rw [hp]; exact Bool.false_ne_true), if_pos hw]
      have hst : sstep s c = some (nxt c { s with found := put s c, word := [], com := (s.com || c == 59) && c != 10 }) := by
        unfold sstep; rw [if_pos hd]
      obtain ⟨t, t1, t2, t3, t4, t5⟩ := run_gap g _ b' (nxt c { s with found := put s c, word := [], com := (s.com || c == 59) && c != 10 }) r h' (by rw [nxt_word]) (by rw [nxt_com, hc])
      refine ⟨t, ?_, ?_, t3, t4, fun p hp => ?_⟩
      · rw [List.cons_append, srun_cons hst, t1]
      · rw [t2, nxt_found, hput]
      · have := t5 (p ++ [c]) (atP_nxt hp rfl rfl)
        rw [List.append_assoc] at this
        exact this
    · rw [if_neg hb] at h'
      cases h'

/-! ### words -/
theorem run_word : ∀ (w : List Nat) (s : Sc) (r : List Nat), (∀ c ∈ w, wc c = true) → s.com = false →
    ∃ t, srun s (w ++ r) = srun t r ∧ t.found = s.found ∧ t.word = s.word ++ w ∧ t.com = false ∧ ∀ p, AtP p s → AtP (p ++ w) t
  | [], s, r, _, hc => ⟨s, rfl, rfl, by rw [List.append_nil], hc, fun p hp => by rw [List.append_nil]; exact hp⟩
  | c :: w, s, r, h, hc => by
    have hw := h c List.mem_cons_self
    obtain ⟨h1, h2, h3, _⟩ := wc_facts c hw
    have hst : sstep s c = some (nxt c { s with word := s.word ++ [c] }) := by
      unfold sstep
      rw [if_neg (by rw [hc, h1, h2]; decide), if_pos hw]
    obtain ⟨t, t1, t2, t3, t4, t5⟩ := run_word w (nxt c { s with word := s.word ++ [c] }) r (fun d hd => h d (List.mem_cons_of_mem _ hd)) (by rw [nxt_com]; exact hc)
    refine ⟨t, ?_, ?_, ?_, t4, fun p hp => ?_⟩
    · rw [List.cons_append, srun_cons hst, t1]
    · rw [t2, nxt_found]
    · rw [t3, nxt_word, List.append_assoc]; rfl
    · have := t5 (p ++ [c]) (atP_nxt hp rfl rfl)
      rw [List.append_assoc] at this
      exact this
/-- a sign that ends words -/
def ender (c : Nat) : Bool := bl c || dl c
theorem flush {s : Sc} {c : Nat} (hw : s.word ≠ []) (hc : s.com = false) (he : ender c = true) :
    sstep s c = sstep { s with found := s.found ++ [(s.word, s.line, s.col - (s.word.length : Int))], word := [] } c := by
  unfold sstep
  have h : (s.com || (bl c || dl c)) = true := by rw [hc]; exact he
  rw [if_pos h, if_pos h]
  have : put s c = put { s with found := s.found ++ [(s.word, s.line, s.col - (s.word.length : Int))], word := [] } c := by
    unfold put flushed
    simp only [if_neg hw, if_pos]
  rw [this]
def headEnds : List Nat → Prop
  | [] => False
  | c :: _ => ender c = true
theorem flush_run {s : Sc} {l : List Nat} (hw : s.word ≠ []) (hc : s.com = false) (he : headEnds l) :
    srun s l = srun { s with found := s.found ++ [(s.word, s.line, s.col - (s.word.length : Int))], word := [] } l := by
  cases l with
  | nil => exact he.elim
  | cons c r =>
    show (match sstep s c with
      | none => Sum.inl (s.line, s.col)
      | some t => srun t r) = _
    rw [flush hw hc he]
    rfl
theorem run_par {s : Sc} {c : Nat} {r : List Nat} (hp : pa c = true) (hw : s.word = []) (hc : s.com = false) :
    ∃ t, srun s (c :: r) = srun t r ∧ t.found = s.found ++ [([c], s.line, s.col)] ∧ t.word = [] ∧ t.com = false ∧ ∀ p, AtP p s → AtP (p ++ [c]) t := by
  have h : (s.com || (bl c || dl c)) = true := by rw [pa_dl c hp]; simp
  have hst : sstep s c = some (nxt c { s with found := put s c, word := [], com := (s.com || c == 59) && c != 10 }) := by
    unfold sstep; rw [if_pos h]
  refine ⟨_, srun_cons hst, ?_, by rw [nxt_word], ?_, fun p hp => atP_nxt hp rfl rfl⟩
  · rw [nxt_found]
    show put s c = _
    unfold put flushed
    rw [if_pos (by rw [hc, hp]; rfl), if_pos hw]
  · rw [nxt_com, hc]
    rcases pa_cases hp with e | e <;> rw [e] <;> rfl

/-! ### items: a word, the gap behind it -/
def isPar (w : List Nat) : Prop := w = [40] ∨ w = [41]
def okw (w : List Nat) : Prop := isPar w ∨ (w ≠ [] ∧ ∀ c ∈ w, wc c = true)
def okg (g : List Nat) : Prop := cm false g = some false
abbrev Items := List (List Nat × List Nat)
def flat : Items → List Nat
  | [] => []
  | (w, g) :: r => w ++ (g ++ flat r)
def dues (p : List Nat) : Items → List (List Nat × Int × Int)
  | [] => []
  | (w, g) :: r => (w, lineOf p, colOf p) :: dues (p ++ (w ++ g)) r
def WFi (rest : List Nat) : Items → Prop
  | [] => True
  | (w, g) :: r => okw w ∧ okg g ∧ (isPar w ∨ headEnds (g ++ (flat r ++ rest))) ∧ WFi rest r
theorem isPar_pa {w : List Nat} (h : isPar w) : ∃ c, w = [c] ∧ pa c = true := by
  rcases h with h | h
  · exact ⟨40, h, by decide⟩
  · exact ⟨41, h, by decide⟩
theorem nls_word {w : List Nat} (h : ∀ c ∈ w, wc c = true) : nls w = 0 := nls_zero w fun c hc => (wc_facts c (h c hc)).2.2.1
theorem run_items (rest : List Nat) : ∀ (it : Items) (p : List Nat) (s : Sc), s.word = [] → s.com = false → AtP p s → WFi rest it →
    ∃ t, srun s (flat it ++ rest) = srun t rest ∧ t.found = s.found ++ dues p it ∧ t.word = [] ∧ t.com = false ∧ AtP (p ++ flat it) t
  | [], p, s, hw, hc, hp, _ => ⟨s, rfl, by simp [dues], hw, hc, by simpa [flat] using hp⟩
  | (w, g) :: r, p, s, hw, hc, hp, wf => by
    obtain ⟨h1, h2, h3, h4⟩ := wf
    -- behind the word, as if it had been put
    have key : ∃ t, srun s (w ++ (g ++ (flat r ++ rest))) = srun t (g ++ (flat r ++ rest)) ∧ t.found = s.found ++ [(w, lineOf p, colOf p)] ∧ t.word = [] ∧ t.com = false ∧ AtP (p ++ w) t := by
      have fromPar : isPar w → ∃ t, srun s (w ++ (g ++ (flat r ++ rest))) = srun t (g ++ (flat r ++ rest)) ∧ t.found = s.found ++ [(w, lineOf p, colOf p)] ∧ t.word = [] ∧ t.com = false ∧ AtP (p ++ w) t := fun hpar => by
        obtain ⟨c, rfl, hpa⟩ := isPar_pa hpar
        obtain ⟨t, t1, t2, t3, t4, t5⟩ := run_par (r := g ++ (flat r ++ rest)) hpa hw hc
        exact ⟨t, t1, by rw [t2, hp.1, hp.2], t3, t4, t5 p hp⟩
      rcases h1 with hpar | ⟨hne, hall⟩
      · exact fromPar hpar
      · rcases h3 with hpar | hends
        · exact fromPar hpar
        · obtain ⟨t, t1, t2, t3, t4, t5⟩ := run_word w s (g ++ (flat r ++ rest)) hall hc
          have tw : t.word = w := by rw [t3, hw, List.nil_append]
          have hat := t5 p hp
          refine ⟨_, t1.trans (flush_run (by rw [tw]; exact hne) t4 hends), ?_, rfl, t4, hat⟩
          show t.found ++ [(t.word, t.line, t.col - (t.word.length : Int))] = _
          rw [t2, tw, hat.1, hat.2, lineOf_app (nls_word hall), colOf_app (nls_word hall)]
          have e : colOf p + (w.length : Int) - (w.length : Int) = colOf p := by omega
          rw [e]
    obtain ⟨t, t1, t2, t3, t4, t5⟩ := key
    obtain ⟨u, u1, u2, u3, u4, u5⟩ := run_gap g false false t (flat r ++ rest) h2 t3 t4
    obtain ⟨v, v1, v2, v3, v4, v5⟩ := run_items rest r (p ++ (w ++ g)) u u3 u4 (by rw [← List.append_assoc]; exact u5 _ t5) h4
    refine ⟨v, ?_, ?_, v3, v4, ?_⟩
    · have e : flat ((w, g) :: r) ++ rest = w ++ (g ++ (flat r ++ rest)) := by simp [flat, List.append_assoc]
      rw [e, t1, u1, v1]
    · rw [v2, u2, t2, List.append_assoc]; rfl
    · have e : p ++ flat ((w, g) :: r) = p ++ (w ++ g) ++ flat r := by simp [flat, List.append_assoc]
      rw [e]; exact v5
/-- the state ahead of a text -/
def sc0 : Sc := ⟨[], 1, 1, [], false⟩
theorem at0 : AtP [] sc0 := ⟨rfl, rfl⟩
/-- THE LAW of scan over a laid text -/
theorem scan_laid {g0 rest : List Nat} {it : Items} (h0 : okg g0) (hr : okg rest) (wf : WFi rest it) : ∃ t, srun sc0 (g0 ++ (flat it ++ rest)) = .inr t ∧ t.found = dues g0 it := by
  obtain ⟨a, a1, a2, a3, a4, a5⟩ := run_gap g0 false false sc0 (flat it ++ rest) h0 rfl rfl
  obtain ⟨b, b1, b2, b3, b4, b5⟩ := run_items rest it g0 a a3 a4 (a5 [] at0) wf
  obtain ⟨c, c1, c2, c3, c4, c5⟩ := run_gap rest false false b [] hr b3 b4
  rw [List.append_nil] at c1
  refine ⟨c, by rw [a1, b1, c1]; rfl, ?_⟩
  rw [c2, b2, a2]
  rfl

/-! ### a sign that no word has -/
def cmE : Bool → List Nat → Option Bool
  | b, [] => some b
  | b, c :: r => if (b || (bl c || dl c)) = true then cmE ((b || c == 59) && c != 10) r else if wc c = true then cmE b r else none
theorem cmE_app : ∀ (a c : List Nat) (b b' : Bool), cmE b a = some b' → cmE b (a ++ c) = cmE b' c
  | [], c, b, b', h => by
    have e : b = b' := Option.some.inj h
    rw [e]; rfl
  | d :: a, c, b, b', h => by
    have h' : (if (b || (bl d || dl d)) = true then cmE ((b || d == 59) && d != 10) a else if wc d = true then cmE b a else none) = some b' := h
    show (if (b || (bl d || dl d)) = true then cmE ((b || d == 59) && d != 10) (a ++ c) else if wc d = true then cmE b (a ++ c) else none) = cmE b' c
    by_cases h1 : (b || (bl d || dl d)) = true
    · rw [if_pos h1] at h' ⊢
      exact cmE_app a c _ b' h'
    · rw [if_neg h1] at h' ⊢
      by_cases h2 : wc d = true
      · rw [if_pos h2] at h' ⊢
        exact cmE_app a c _ b' h'
      · rw [if_neg h2] at h'
        cases h'
theorem run_any : ∀ (l : List Nat) (b b' : Bool) (s : Sc) (r : List Nat), cmE b l = some b' → s.com = b → ∃ t, srun s (l ++ r) = srun t r ∧ t.com = b' ∧ ∀ p, AtP p s → AtP (p ++ l) t
  | [], b, b', s, r, h, hc => by
    have e : b = b' := Option.some.inj h
    exact ⟨s, rfl, hc.trans e, fun p hp => by rw [List.append_nil]; exact hp⟩
  | c :: l, b, b', s, r, h, hc => by
    have h' : (if (b || (bl c || dl c)) = true then cmE ((b || c == 59) && c != 10) l else if wc c = true then cmE b l else none) = some b' := h
    have fin : ∀ u : Sc, sstep s c = some (nxt c u) → u.line = s.line → u.col = s.col → cmE u.com l = some b' → ∃ t, srun s (c :: l ++ r) = srun t r ∧ t.com = b' ∧ ∀ p, AtP p s → AtP (p ++ c :: l) t := fun u hu e1 e2 hcm => by
      obtain ⟨t, t1, t2, t3⟩ := run_any l u.com b' (nxt c u) r hcm (nxt_com c u)
      refine ⟨t, by rw [List.cons_append, srun_cons hu, t1], t2, fun p hp => ?_⟩
      have := t3 (p ++ [c]) (atP_nxt hp e1 e2)
      rw [List.append_assoc] at this
      exact this
    by_cases h1 : (b || (bl c || dl c)) = true
    · rw [if_pos h1] at h'
      refine fin { s with found := put s c, word := [], com := (s.com || c == 59) && c != 10 } (by unfold sstep; rw [if_pos (by rw [hc]; exact h1)]) rfl rfl ?_
      show cmE ((s.com || c == 59) && c != 10) l = some b'
      rw [hc]; exact h'
    · rw [if_neg h1] at h'
      by_cases h2 : wc c = true
      · rw [if_pos h2] at h'
        refine fin { s with word := s.word ++ [c] } (by unfold sstep; rw [if_neg (by rw [hc]; exact h1), if_pos h2]) rfl rfl ?_
        show cmE s.com l = some b'
        rw [hc]; exact h'
      · rw [if_neg h2] at h'
        cases h'
def bad (c : Nat) : Prop := bl c = false ∧ dl c = false ∧ wc c = false
theorem scan_bad {p r : List Nat} {x : Nat} (h : cmE false p = some false) (hx : bad x) : srun sc0 (p ++ x :: r) = .inl (lineOf p, colOf p) := by
  obtain ⟨t, t1, t2, t3⟩ := run_any p false false sc0 (x :: r) h rfl
  have hat := t3 [] at0
  rw [List.nil_append] at hat
  rw [t1]
  show (match sstep t x with
    | none => Sum.inl (t.line, t.col)
    | some t => srun t r) = _
  have hn : sstep t x = none := by
    unfold sstep
    rw [if_neg (by rw [t2, hx.1, hx.2.1]; decide), if_neg (by rw [hx.2.2]; decide)]
  rw [hn, hat.1, hat.2]
theorem cmE_gap : ∀ (g : List Nat) (b b' : Bool), cm b g = some b' → cmE b g = some b'
  | [], _, _, h => h
  | c :: g, b, b', h => by
    have h' : (if (b || (bl c || c == 59)) = true then cm ((b || c == 59) && c != 10) g else none) = some b' := h
    by_cases h1 : (b || (bl c || c == 59)) = true
    · rw [if_pos h1] at h'
      show (if (b || (bl c || dl c)) = true then cmE ((b || c == 59) && c != 10) g else _) = _
      have h2 : (b || (bl c || dl c)) = true := by
        rcases Bool.or_eq_true_iff.mp h1 with q | q
        · rw [q]; rfl
        · rcases Bool.or_eq_true_iff.mp q with q | q
          · rw [q]; simp
          · have e : c = 59 := by simpa using q
            rw [e, semi_dl]; simp
      rw [if_pos h2]
      exact cmE_gap g _ b' h'
    · rw [if_neg h1] at h'
      cases h'
theorem cmE_chars : ∀ w : List Nat, (∀ c ∈ w, wc c = true) → cmE false w = some false
  | [], _ => rfl
  | c :: w, h => by
    have hw := h c List.mem_cons_self
    obtain ⟨h1, h2, _⟩ := wc_facts c hw
    show (if (false || (bl c || dl c)) = true then _ else if wc c = true then cmE false w else none) = _
    rw [if_neg (by rw [h1, h2]; decide), if_pos hw]
    exact cmE_chars w fun d hd => h d (List.mem_cons_of_mem _ hd)
theorem cmE_word {w : List Nat} (h : okw w) : cmE false w = some false := by
  rcases h with h | h
  · rcases h with h | h <;> rw [h] <;> decide
  · exact cmE_chars w h.2
/-- a part of a word -/
theorem cmE_part {w : List Nat} (h : okw w) (k : Nat) : cmE false (w.take k) = some false := by
  rcases h with h | h
  · rcases h with h | h
    · rw [h]
      cases k with
      | zero => rfl
      | succ k => simp; decide
    · rw [h]
      cases k with
      | zero => rfl
      | succ k => simp; decide
  · exact cmE_chars _ fun c hc => h.2 c (List.mem_of_mem_take hc)
theorem cmE_flat (rest : List Nat) : ∀ it : Items, WFi rest it → cmE false (flat it) = some false
  | [], _ => rfl
  | (w, g) :: r, h => by
    obtain ⟨h1, h2, _, h4⟩ := h
    show cmE false (w ++ (g ++ flat r)) = _
    rw [cmE_app w _ _ _ (cmE_word h1), cmE_app g _ _ _ (cmE_gap g _ _ h2)]
    exact cmE_flat rest r h4
end Sure

/-! Short words over the hand layer: a def by its name, heaps, lists. -/
namespace Sure
open PySem PySem.Spec PyProof.Rows L2
/-- a def of the text under its name: it keeps sp -/
structure DefOk (P : Program) (w : World) (K : PySem.W.Frag) (mg : Str → Option Value) (base : Heap) (CX : CXT) (k : Nat) (x : Str) (ps : List Str) (sp : Sp) : Prop where
  ex : ∃ (f : Addr) (fd : FuncData), FnOk P w K mg base CX k f fd ps sp ∧ mg x = some (.ref f) ∧ PySem.W.keepIn K (.ref f) = true ∧ Binds K fd ps []
theorem DefOk.mono {P : Program} {w : World} {K : PySem.W.Frag} {mg : Str → Option Value} {base : Heap} {CX : CXT} {j k : Nat} {x : Str} {ps : List Str} {sp : Sp} (D : DefOk P w K mg base CX j x ps sp) (h : j ≤ k) : DefOk P w K mg base CX k x ps sp := by
  obtain ⟨f, fd, F, a, b, c⟩ := D.ex
  exact ⟨f, fd, F.mono h, a, b, c⟩
section
variable {X : Cx} {CX : CXT} {k : Nat} {ps : List Str} {sp : Sp} {E : XK} {x : Str} {p pos : Pos} {e : Expr} {es : List Expr} {t : TA}
/-- f(e, ..) of such a def -/
def tD (sp : Sp) (E : XK) (t : TA) : TE := fun σ H Q => t σ H fun vs H1 => sp vs H1 Q E
theorem pe_callD (D : DefOk X.prog X.w X.K X.mg X.base CX k x ps sp) (hr : Room k X.A) (hx : Passes CX X E) (ha : PA X (e :: es) t) (hg : Gl X x := by rfl) (hdb : (x == ("__debug__" : Str)) = false := by decide)
    (he : starEach (e :: es) X.env = (false, eval e X.env) :: starEach es X.env := by rfl) (hpl : (backTo pos (starEach es X.env)).any (·.1) = false := by rfl) : PE X (.Call (.Name x p) (e :: es) [] pos) (tD sp E t) := by
  obtain ⟨f, fd, F, a, b, c⟩ := D.ex
  refine ⟨fun pins s σ H Q I h => ?_⟩
  refine (pe_call F hr hg a b c .nil hx ha hdb he hpl).run pins s σ H Q I ?_
  show t σ H fun vs H1 => sp (vs ++ []) H1 Q E
  have e1 : (fun (vs : List V) (H1 : Hp) => sp (vs ++ []) H1 Q E) = fun vs H1 => sp vs H1 Q E := by
    funext vs H1
    rw [List.append_nil]
  rw [e1]
  exact h
/-- the same where what it raises is taken at the slots -/
theorem pe_callDS {E : L2.St → XK} (D : DefOk X.prog X.w X.K X.mg X.base CX k x ps sp) (hr : Room k X.A) (hx : ∀ σ, PassesAt CX X σ (E σ)) (ha : PA X (e :: es) t) (hg : Gl X x := by rfl) (hdb : (x == ("__debug__" : Str)) = false := by decide)
    (he : starEach (e :: es) X.env = (false, eval e X.env) :: starEach es X.env := by rfl) (hpl : (backTo pos (starEach es X.env)).any (·.1) = false := by rfl) : PE X (.Call (.Name x p) (e :: es) [] pos) (tCallS sp E t) := by
  obtain ⟨f, fd, F, a, b, c⟩ := D.ex
  exact pe_callS F hr hg a b c hx ha hdb he hpl
end

/-! ### heaps -/
theorem same_upd {H : Hp} {p : Addr} {o : HO} (h : H p = none) : Same H (upd H p o) := fun b x e => by
  rw [upd_ne (ne_of_none e h)]
  exact e
theorem same_upd2 {H H' : Hp} {p : Addr} {o : HO} (s : Same H H') (h : H p = none) : Same H (upd H' p o) := fun b x e => by
  rw [upd_ne (ne_of_none e h)]
  exact s b x e
theorem Same.get {H H' : Hp} {p : Addr} {o : HO} (s : Same H H') (h : H p = some o) : H' p = some o := s p o h
theorem Same.tup {K : PySem.W.Frag} {H H' : Hp} {a : Addr} {xs : List V} (e : Same H H') (h : SqT K H a xs) : SqT K H' a xs := by
  rcases h with (h | ⟨o, h⟩) | h
  · exact .inl (.inl (e _ _ h))
  · exact .inl (.inr ⟨o, e _ _ h⟩)
  · exact .inr h
/-- all but the object at a is as it was -/
def SameBut (a : Addr) (H H' : Hp) : Prop := ∀ b o, b ≠ a → H b = some o → H' b = some o
theorem SameBut.refl (a : Addr) (H : Hp) : SameBut a H H := fun _ _ _ h => h
theorem SameBut.trans {a : Addr} {H H1 H2 : Hp} (x : SameBut a H H1) (y : SameBut a H1 H2) : SameBut a H H2 := fun b o n h => y b o n (x b o n h)
theorem SameBut.of {a : Addr} {H H' : Hp} (x : Same H H') : SameBut a H H' := fun b o _ h => x b o h
theorem SameBut.upd {a : Addr} {H H' : Hp} {o : HO} (x : SameBut a H H') : SameBut a H (upd H' a o) := fun b u n h => by
  rw [upd_ne n]
  exact x b u n h
theorem SameBut.new {a p : Addr} {H H' : Hp} {o : HO} (x : SameBut a H H') (h : H p = none) : SameBut a H (L2.upd H' p o) := fun b u n e => by
  rw [upd_ne (ne_of_none e h)]
  exact x b u n e
theorem SameBut.seq {K : PySem.W.Frag} {H H' : Hp} {a b : Addr} {xs : List V} (e : SameBut a H H') (n : b ≠ a) (h : SqL K H b xs) : SqL K H' b xs := by
  rcases h with (h | ⟨o, h⟩) | h
  · exact .inl (.inl (e _ _ n h))
  · exact .inl (.inr ⟨o, e _ _ n h⟩)
  · exact .inr h
theorem SameBut.tup {K : PySem.W.Frag} {H H' : Hp} {a b : Addr} {xs : List V} (e : SameBut a H H') (n : b ≠ a) (h : SqT K H b xs) : SqT K H' b xs := by
  rcases h with (h | ⟨o, h⟩) | h
  · exact .inl (.inl (e _ _ n h))
  · exact .inl (.inr ⟨o, e _ _ n h⟩)
  · exact .inr h
theorem small_lt {n : Nat} (h : n ≤ 1000000) : n < sizeLine := Nat.lt_of_le_of_lt h (by decide)
theorem small_le {n : Nat} (h : n ≤ 1000000) : n ≤ sizeLine := Nat.le_of_lt (small_lt h)
/-! ### data -/
theorem dp_mono {K : PySem.W.Frag} {H H' : Hp} (s : Same H H') : ∀ {v : V} {d : PyData}, Dp K H v d → Dp K H' v d
  | _, _, .non => .non
  | _, _, .bl b => .bl b
  | _, _, .int i => .int i
  | _, _, .str x => .str x
  | _, _, .lst h r => .lst (s.seq h) (all s r)
  | _, _, .tup h r => .tup (Same.tup s h) (all s r)
where all {K : PySem.W.Frag} {H H' : Hp} (s : Same H H') : ∀ {vs : List V} {ds : List PyData}, DpAll K H vs ds → DpAll K H' vs ds
  | _, _, .nil => .nil
  | _, _, .cons h r => .cons (dp_mono s h) (all s r)
theorem DpAll.length {K : PySem.W.Frag} {H : Hp} : ∀ {vs : List V} {ds : List PyData}, DpAll K H vs ds → vs.length = ds.length
  | _, _, .nil => rfl
  | _, _, .cons _ r => congrArg (· + 1) (DpAll.length r)
theorem DpAll.get {K : PySem.W.Frag} {H : Hp} : ∀ {vs : List V} {ds : List PyData} {i : Nat} {d : PyData}, DpAll K H vs ds → ds[i]? = some d → ∃ v, vs[i]? = some v ∧ Dp K H v d
  | _, _, _, _, .nil, h => by simp at h
  | _, _, 0, _, .cons h _, e => by
    have e2 := Option.some.inj e
    subst e2
    exact ⟨_, rfl, h⟩
  | _, _, i + 1, _, .cons _ r, e => DpAll.get (i := i) r e
/-! ### rules that name the written part -/
section
variable {X : Cx} {K : PySem.W.Frag}
theorem ixL (e : X.K = K := by rfl) : IxR X (rIxL K) := by subst e; exact ix_list
theorem ixT (e : X.K = K := by rfl) : IxR X (rIxT K) := by subst e; exact ix_tup
theorem ixQ (e : X.K = K := by rfl) : IxR X (rIx K) := by subst e; exact ix_seq
def rLenQ (K : PySem.W.Frag) : List V → Hp → VK → Prop := fun xs H Q => ∃ p ys, xs = [.ref p] ∧ (SqL K H p ys ∨ SqT K H p ys) ∧ Q (.int ys.length) H
theorem lenQ (e : X.K = K := by rfl) : CallR X (.builtin "len") (rLenQ K) := by subst e; exact call_len_seq
theorem allL (hc : X.calm = true := by rfl) (e : X.K = K := by rfl) : CallR X (.builtin "all") (rAll K) := by subst e; exact cr_all hc
theorem anyL (hc : X.calm = true := by rfl) (e : X.K = K := by rfl) : CallR X (.builtin "any") (rAny K) := by subst e; exact cr_any hc
theorem sumL (hc : X.calm = true := by rfl) (e : X.K = K := by rfl) : CallR X (.builtin "sum") (rSum K) := by subst e; exact cr_sum hc
theorem isiV (e : X.K = K := by rfl) : CallR X (.builtin "isinstance") (rIsi K) := by subst e; exact call_isi
theorem slL (e : X.K = K := by rfl) : SlR X (rSlL K) := by subst e; exact sl_list
theorem slT (e : X.K = K := by rfl) : SlR X (rSlT K) := by subst e; exact sl_tup
def rListOf (K : PySem.W.Frag) : List V → Hp → VK → Prop := fun xs H Q => ∃ p ys, xs = [.ref p] ∧ (SqL K H p ys ∨ SqT K H p ys) ∧ ∀ l, H l = none → Q (.ref l) (L2.upd H l (.lst ys))
theorem listOf (e : X.K = K := by rfl) : CallR X (.type "list") (rListOf K) := by subst e; exact call_list_of
def rTupOf (K : PySem.W.Frag) : List V → Hp → VK → Prop := fun xs H Q => ∃ p ys, xs = [.ref p] ∧ ((SqL K H p ys ∧ ∀ l, H l = none → Q (.ref l) (L2.upd H l (.tup ys))) ∨ (SqT K H p ys ∧ Q (.ref p) H))
theorem tupOf (e : X.K = K := by rfl) : CallR X (.type "tuple") (rTupOf K) := by subst e; exact call_tuple_of
theorem inQ (e : X.K = K := by rfl) : OpR X (compareOp .In) (rIn K false) := by subst e; exact op_in_seq
theorem niQ (e : X.K = K := by rfl) : OpR X (compareOp .NotIn) (rIn K true) := by subst e; exact op_notIn_seq
/-- a built-in class as a value -/
theorem pe_tyN (T : String) {x : Str} {pos : Pos} (hg : Gl X x) (hm : X.mg x = none) (hv : bootBuiltins x = some (.type T)) (hn : x ≠ "__name__" := by decide) (hd : (x == ("__debug__" : Str)) = false := by decide) : PE X (.Name x pos) (tC (.ty T)) :=
  pe_bltn (v := .ty T) hg hm hv rfl hn hd
end
/-! ### comprehensions without a test -/
theorem yes_eq {vs : List Nat} {σ : L2.St} {D : Addr} {te : TE} {Nx : Hp → Prop} {Ns : Hp → Prop} : (fun (σ2 : L2.St) (H2 : Hp) => wipe σ2 vs = wipe σ vs ∧ tYes σ2 H2 fun b H3 => if b = true then te σ2 H3 fun y H4 => ∃ acc, H4 D = some (.lst acc) ∧ acc.length < sizeLine ∧ Nx (L2.upd H4 D (.lst (acc ++ [y]))) else Ns H3) =
    fun σ2 H2 => wipe σ2 vs = wipe σ vs ∧ te σ2 H2 fun y H4 => ∃ acc, H4 D = some (.lst acc) ∧ acc.length < sizeLine ∧ Nx (L2.upd H4 D (.lst (acc ++ [y]))) := by
  funext σ2 H2
  refine congrArg (fun z : Prop => (wipe σ2 vs = wipe σ vs ∧ z)) ?_
  exact if_pos (c := true = true) (e := Ns H2) rfl
theorem lcY_range {lo : Int} {n : Nat} {g : TG} {te : TE} {vs : List Nat} {σ : L2.St} {H1 : Hp} {D : Addr} {Qd : Hp → Prop} (Pv : Nat → Hp → Prop) (h0 : Pv 0 (L2.upd H1 D (.lst [])))
    (hs : ∀ i H, i < n → Pv i H → g (.int (lo + i)) (wipe σ vs) H fun σ2 H2 => wipe σ2 vs = wipe σ vs ∧ te σ2 H2 fun y H4 => ∃ acc, H4 D = some (.lst acc) ∧ acc.length < sizeLine ∧ Pv (i + 1) (L2.upd H4 D (.lst (acc ++ [y])))) (hd : ∀ H, Pv n H → Qd H) :
    ∃ W : Nat → Nat → Hp → Prop, (∃ m, W 0 m (L2.upd H1 D (.lst []))) ∧ ∀ i m H, W i m H →
      ((Itr lo n).stop i H ∧ Qd H) ∨ ((Itr lo n).go i H ∧ ∃ Nx : Hp → Prop, (∀ H', Nx H' → ∃ m', m' < m ∧ W (i + 1) m' H') ∧ ∀ x H', (Itr lo n).yld i H x H' → g x (wipe σ vs) H' fun σ2 H2 => wipe σ2 vs = wipe σ vs ∧ tYes σ2 H2 fun b H3 =>
        if b = true then te σ2 H3 fun y H4 => ∃ acc, H4 D = some (.lst acc) ∧ acc.length < sizeLine ∧ Nx (L2.upd H4 D (.lst (acc ++ [y]))) else Nx H3) :=
  lc_range Pv h0 (fun i H hi p => by rw [yes_eq]; exact hs i H hi p) hd
theorem lcY_list {K : PySem.W.Frag} {a : Addr} {xs : List V} {g : TG} {te : TE} {vs : List Nat} {σ : L2.St} {H1 : Hp} {D : Addr} {Qd : Hp → Prop} (Pv : Nat → Hp → Prop) (h0 : Pv 0 (L2.upd H1 D (.lst []))) (hl : ∀ i H, i ≤ xs.length → Pv i H → SqL K H a xs)
    (hs : ∀ i x H, xs[i]? = some x → Pv i H → g x (wipe σ vs) H fun σ2 H2 => wipe σ2 vs = wipe σ vs ∧ te σ2 H2 fun y H4 => ∃ acc, H4 D = some (.lst acc) ∧ acc.length < sizeLine ∧ Pv (i + 1) (L2.upd H4 D (.lst (acc ++ [y])))) (hd : ∀ H, Pv xs.length H → Qd H) :
    ∃ W : Nat → Nat → Hp → Prop, (∃ m, W 0 m (L2.upd H1 D (.lst []))) ∧ ∀ i m H, W i m H →
      ((Itl K a).stop i H ∧ Qd H) ∨ ((Itl K a).go i H ∧ ∃ Nx : Hp → Prop, (∀ H', Nx H' → ∃ m', m' < m ∧ W (i + 1) m' H') ∧ ∀ x H', (Itl K a).yld i H x H' → g x (wipe σ vs) H' fun σ2 H2 => wipe σ2 vs = wipe σ vs ∧ tYes σ2 H2 fun b H3 =>
        if b = true then te σ2 H3 fun y H4 => ∃ acc, H4 D = some (.lst acc) ∧ acc.length < sizeLine ∧ Nx (L2.upd H4 D (.lst (acc ++ [y]))) else Nx H3) :=
  lc_list Pv h0 hl (fun i x H hi p => by rw [yes_eq]; exact hs i x H hi p) hd
theorem lcY_tup {K : PySem.W.Frag} {a : Addr} {xs : List V} {g : TG} {te : TE} {vs : List Nat} {σ : L2.St} {H1 : Hp} {D : Addr} {Qd : Hp → Prop} (Pv : Nat → Hp → Prop) (h0 : Pv 0 (L2.upd H1 D (.lst []))) (hl : ∀ i H, i ≤ xs.length → Pv i H → SqT K H a xs)
    (hs : ∀ i x H, xs[i]? = some x → Pv i H → g x (wipe σ vs) H fun σ2 H2 => wipe σ2 vs = wipe σ vs ∧ te σ2 H2 fun y H4 => ∃ acc, H4 D = some (.lst acc) ∧ acc.length < sizeLine ∧ Pv (i + 1) (L2.upd H4 D (.lst (acc ++ [y])))) (hd : ∀ H, Pv xs.length H → Qd H) :
    ∃ W : Nat → Nat → Hp → Prop, (∃ m, W 0 m (L2.upd H1 D (.lst []))) ∧ ∀ i m H, W i m H →
      ((Itt K a).stop i H ∧ Qd H) ∨ ((Itt K a).go i H ∧ ∃ Nx : Hp → Prop, (∀ H', Nx H' → ∃ m', m' < m ∧ W (i + 1) m' H') ∧ ∀ x H', (Itt K a).yld i H x H' → g x (wipe σ vs) H' fun σ2 H2 => wipe σ2 vs = wipe σ vs ∧ tYes σ2 H2 fun b H3 =>
        if b = true then te σ2 H3 fun y H4 => ∃ acc, H4 D = some (.lst acc) ∧ acc.length < sizeLine ∧ Nx (L2.upd H4 D (.lst (acc ++ [y]))) else Nx H3) :=
  lc_tup Pv h0 hl (fun i x H hi p => by rw [yes_eq]; exact hs i x H hi p) hd
/-! ### a text's signs -/
abbrev S (l : List Nat) : Str := ⟨l.toArray⟩
theorem S_tl (x : Str) : S (TL.tl x) = x := TL.mk_tl x
theorem tl_S (l : List Nat) : TL.tl (S l) = l := rfl
theorem S_len (l : List Nat) : (S l).length = l.length := by rw [TL.len_tl]
theorem S_app (a b : List Nat) : S a ++ S b = S (a ++ b) := TL.ext_tl (by rw [TL.tl_append])
theorem S_inj {a b : List Nat} (h : S a = S b) : a = b := congrArg TL.tl h
/-- for c in a text: Pv by the turn -/
theorem for_str {l : List Nat} {g : TG} {tb : TS} {D : Ends} {σ : L2.St} {H : Hp} (Pv : Nat → L2.St → Hp → Prop) (h0 : Pv 0 σ H)
    (hs : ∀ i c σ H, l[i]? = some c → Pv i σ H → g (.str (S [c])) σ H fun σ2 H2 => tb { D with nx := Pv (i + 1), ct := Pv (i + 1), bk := D.nx } σ2 H2) (hd : ∀ σ H, Pv l.length σ H → D.nx σ H) :
    ∃ W : Nat → Nat → L2.St → Hp → Prop, (∃ m, W 0 m σ H) ∧ ∀ i m σ H, W i m σ H →
      ((Its (S l)).stop i H ∧ D.nx σ H) ∨ ((Its (S l)).go i H ∧ ∃ N : L2.St → Hp → Prop, (∀ σ' H', N σ' H' → ∃ m', m' < m ∧ W (i + 1) m' σ' H') ∧ ∀ x H', (Its (S l)).yld i H x H' → g x σ H' fun σ2 H2 => tb { D with nx := N, ct := N, bk := D.nx } σ2 H2) := by
  refine ⟨fun i m σ H => m = l.length - i ∧ i ≤ l.length ∧ Pv i σ H, ⟨l.length, rfl, Nat.zero_le _, h0⟩, ?_⟩
  rintro i m σ H ⟨rfl, hi, p⟩
  by_cases hlt : i < l.length
  · refine .inr ⟨by show i < (S l).cps.size; simpa using hlt, Pv (i + 1), fun σ' H' p' => ⟨l.length - (i + 1), by omega, rfl, hlt, p'⟩, fun x H' y => ?_⟩
    obtain ⟨e, c, hc, ex⟩ := y
    subst e ex
    exact hs i c _ _ (by simpa using hc) p
  · have e : i = l.length := by omega
    subst e
    exact .inl ⟨by show (S l).cps.size ≤ _; simp, hd _ _ p⟩
/-! ### readings made monotone -/
def upA (t : TA) : TA := fun σ H Q => ∃ R : List V → Hp → Prop, t σ H R ∧ ∀ vs H', R vs H' → Q vs H'
theorem pa_up {X : Cx} {es : List Expr} {t : TA} (h : PA X es t) : PA X es (upA t) := ⟨fun pos pins s σ H Q I hw => by
  obtain ⟨R, h1, h2⟩ := hw
  exact thn (h.run pos pins s σ H R I h1) fun us s1 ⟨vs, H1, I1, r1, q1⟩ => ⟨vs, H1, I1, r1, h2 vs H1 q1⟩⟩
def upE (t : TE) : TE := fun σ H Q => ∃ R : V → Hp → Prop, t σ H R ∧ ∀ v H', R v H' → Q v H'
theorem pe_up {X : Cx} {e : Expr} {t : TE} (h : PE X e t) : PE X e (upE t) := ⟨fun pins s σ H Q I hw => by
  obtain ⟨R, h1, h2⟩ := hw
  exact thn (h.run pins s σ H R I h1) fun u s1 ⟨v, H1, I1, r1, q1⟩ => ⟨v, H1, I1, r1, h2 v H1 q1⟩⟩
def upT (t : TT) : TT := fun σ H Q => ∃ R : Bool → Hp → Prop, t σ H R ∧ ∀ b H', R b H' → Q b H'
theorem pt_up {X : Cx} {e : Expr} {t : TT} (h : PT X e t) : PT X e (upT t) := ⟨fun pins s σ H Q I hw => by
  obtain ⟨R, h1, h2⟩ := hw
  exact thn (h.run pins s σ H R I h1) fun b s1 ⟨H1, I1, q1⟩ => ⟨H1, I1, h2 b H1 q1⟩⟩
theorem small_sum (n : Nat) (h : n ≤ 1000000) : n ≤ 16777216 := by omega
end Sure

/-! Types of data, isinstance, equality of data. -/
namespace Sure
open PySem PySem.Spec PyProof.Rows L2
def tyN : PyData → String
  | .none => "NoneType"
  | .bool _ => "bool"
  | .int _ => "int"
  | .str _ => "str"
  | .list _ => "list"
  | .tuple _ => "tuple"
  | .dict _ => "dict"
theorem tyx_dp {K : PySem.W.Frag} {H : Hp} {v : V} {d : PyData} (h : Dp K H v d) : TyX K H v (.type (tyN d)) := by
  cases h with
  | non => exact .base .non
  | bl b => exact .base (.bl b)
  | int i => exact .base (.int i)
  | str x => exact .base (.str x)
  | lst h r =>
    rcases h with (h | ⟨o, h⟩) | ⟨o, its, n, h1, h2, _⟩
    · exact .base (.lst h)
    · exact .base (.frz h)
    · exact .kList h1 h2
  | tup h r =>
    rcases h with (h | ⟨o, h⟩) | ⟨o, its, n, h1, h2, _⟩
    · exact .base (.tup h)
    · exact .fTuple h
    · exact .kTuple h1 h2
def isT (n T : String) : Bool := n == T || (n == "bool" && T == "int")
def tyNames : List String := ["NoneType", "bool", "int", "str", "list", "tuple", "dict"]
theorem kit_all {K : PySem.W.Frag} : ∀ n ∈ tyNames, ∀ T ∈ tyNames.tail, PySem.W.kitOne K (.type n) (.type T) = some (isT n T) := by
  have key : ∀ n ∈ tyNames, ∀ T ∈ tyNames.tail, kitB n T = some (isT n T) := by decide +kernel
  exact fun n hn T hT => kit_ty (key n hn T hT)
theorem tyN_mem (d : PyData) : tyN d ∈ tyNames := by cases d <;> simp [tyN, tyNames]
/-- isinstance(x, T), x of known data -/
theorem isi_rd {K : PySem.W.Frag} {H : Hp} {x : V} {d : PyData} {Q : VK} {T : String} (h : Dp K H x d) (hT : T ∈ tyNames.tail) (q : Q (.bl (isT (tyN d) T)) H) : rIsi K [x, .ty T] H Q :=
  ⟨x, .ty T, .type (tyN d), .type T, _, rfl, .ty T, tyx_dp h, kit_all _ (tyN_mem d) T hT, q⟩
/-- data without dicts, so deep, no list or tuple too long -/
def okD : Nat → PyData → Prop
  | 0, .list _ => False
  | 0, .tuple _ => False
  | n + 1, .list ds => ds.length ≤ 1000000 ∧ ∀ d ∈ ds, okD n d
  | n + 1, .tuple ds => ds.length ≤ 1000000 ∧ ∀ d ∈ ds, okD n d
  | _, .dict _ => False
  | _, _ => True
theorem okD_scal {n : Nat} {d : PyData} (h : ∀ ds, d ≠ .list ds) (h2 : ∀ ds, d ≠ .tuple ds) (h3 : ∀ ds, d ≠ .dict ds) : okD n d := by
  cases n <;> cases d <;> first | trivial | exact absurd rfl (h _) | exact absurd rfl (h2 _) | exact absurd rfl (h3 _)
theorem ite_true' {c : Bool} {A B : Prop} (hc : c = true) (h : A) : if c = true then A else B := by rw [if_pos hc]; exact h
theorem ite_false' {c : Bool} {A B : Prop} (hc : c = false) (h : B) : if c = true then A else B := by rw [hc, if_neg Bool.false_ne_true]; exact h
/-- a list or a tuple that is read -/
def Sq (K : PySem.W.Frag) (H : Hp) (a : Addr) (xs : List V) : Prop := SqL K H a xs ∨ SqT K H a xs
theorem Sq.mono {K : PySem.W.Frag} {H H' : Hp} {a : Addr} {xs : List V} (s : Same H H') (h : Sq K H a xs) : Sq K H' a xs := h.elim (fun h => .inl (s.seq h)) fun h => .inr (Same.tup s h)
theorem rIx_of {K : PySem.W.Frag} {H : Hp} {a : Addr} {xs : List V} {i : Int} {j : Nat} {v : V} {Q : VK} (h : Sq K H a xs) (e : i = (j : Int)) (hv : xs[j]? = some v) (q : Q v H) : rIx K (.ref a) (.int i) H Q :=
  h.elim (fun h => .inl ⟨a, xs, i, v, rfl, rfl, h, at_of e hv, q⟩) fun h => .inr (.inl ⟨a, xs, i, v, rfl, rfl, h, at_of e hv, q⟩)
theorem rIxL_of {K : PySem.W.Frag} {H : Hp} {a : Addr} {xs : List V} {i : Int} {j : Nat} {v : V} {Q : VK} (h : SqL K H a xs) (e : i = (j : Int)) (hv : xs[j]? = some v) (q : Q v H) : rIxL K (.ref a) (.int i) H Q :=
  ⟨a, xs, i, v, rfl, rfl, h, at_of e hv, q⟩
theorem rIxT_of {K : PySem.W.Frag} {H : Hp} {a : Addr} {xs : List V} {i : Int} {j : Nat} {v : V} {Q : VK} (h : SqT K H a xs) (e : i = (j : Int)) (hv : xs[j]? = some v) (q : Q v H) : rIxT K (.ref a) (.int i) H Q :=
  ⟨a, xs, i, v, rfl, rfl, h, at_of e hv, q⟩
theorem rep_map (n : Nat) : List.replicate n (V.bl true) = (List.replicate n true).map V.bl := by rw [List.map_replicate]
theorem rep_snoc {α : Type} (n : Nat) (x : α) : List.replicate n x ++ [x] = List.replicate (n + 1) x := (List.replicate_succ' ..).symm
theorem rep_all (n : Nat) : (List.replicate n true).all id = true := by simp
theorem seq_or (d : PyData) : (∃ ds, d = .list ds ∨ d = .tuple ds) ∨ ∀ ds, d ≠ .list ds ∧ d ≠ .tuple ds := by
  cases d with
  | list ds => exact .inl ⟨ds, .inl rfl⟩
  | tuple ds => exact .inl ⟨ds, .inr rfl⟩
  | _ => exact .inr fun ds => ⟨fun e => (nomatch e), fun e => (nomatch e)⟩
theorem sq_of_dp {K : PySem.W.Frag} {H : Hp} {v : V} {d : PyData} {ds : List PyData} (e : d = .list ds ∨ d = .tuple ds) (h : Dp K H v d) : ∃ a xs, v = .ref a ∧ Sq K H a xs ∧ DpAll K H xs ds := by
  rcases e with rfl | rfl
  · cases h with
    | lst h r => exact ⟨_, _, rfl, .inl h, r⟩
  · cases h with
    | tup h r => exact ⟨_, _, rfl, .inr h, r⟩
theorem okD_seq {n : Nat} {d : PyData} {ds : List PyData} (e : d = .list ds ∨ d = .tuple ds) (h : okD n d) : ∃ m, n = m + 1 ∧ ds.length ≤ 1000000 ∧ ∀ x ∈ ds, okD m x := by
  rcases e with rfl | rfl <;> cases n with
  | zero => exact h.elim
  | succ m => exact ⟨m, rfl, h.1, h.2⟩
end Sure

/-! Hot: what runs while an exception is handled: the end of a list, all(list), list comprehensions, own defs. -/
namespace Sure
open PySem PySem.Spec PyProof.Rows L2 L2H HotX
/-- a list's iterator at its end, an exception handled -/
theorem list_end_hot {prog : Program} {w : World} {A : Around} {E : Value → Shared → Prop} {s : Shared} {j ls y : Addr} {k : Nat} {arr : Array Value} {Q : Option Value → Shared → Prop}
    (hot : HotAt A y s.heap) (hi : s.heap.IsListIter j ls k) (hls : s.heap.IsList ls arr) (hnone : arr[k]? = none) (hjy : y ≠ j)
    (fin : ∀ g, Heap.ExtBut j s.heap g → Q none { s with heap := g }) : wpAny (model prog w) A (pyNext (.ref j)) Q E s := by
  obtain ⟨oj, gj, cj, dj⟩ := id hi
  obtain ⟨ol, gl, _, nl, dl⟩ := hls
  obtain ⟨hh, oy, vy, gy, dy, cy⟩ := hot
  unfold pyNext
  refine wpAny_bind ?_
  refine wpAny_attempt (wpAny_callSpecial?_slot (name := Str.ofString "__next__") hi.typeIs slot_listiter_next ?_)
  refine wpAny_call_entry slot_listiter_next hi.typeIs entry_listiter_next ?_ (args_listiter_next _)
  show wpAny _ _ (field (.ref j) 0 >>= _) _ _ s
  refine wpAny_bind (wpAny_field gj dj (x := .ref ls) rfl ?_)
  show wpAny _ _ (if (Value.ref ls == Value.none) = true then _ else _) _ _ s
  rw [if_neg (c := (Value.ref ls == Value.none) = true) Bool.false_ne_true]
  show wpAny _ _ (field (.ref j) 1 >>= _) _ _ s
  refine wpAny_bind (wpAny_field gj dj (x := .int k 0) rfl ?_)
  show wpAny _ _ (seqItems? (.ref ls) >>= _) _ _ s
  refine wpAny_bind (wpAny_seqItems gl dl ?_)
  simp only [Int.toNat_natCast, hnone]
  refine wpAny_bind (wpAny_rule ?_)
  refine wpAny_bind (wpAny_setField gj dj (by simp) ?_)
  show wpAny _ _ (newExc (.type "StopIteration") [] >>= _) _ _ _
  refine wpAny_bind ?_
  simp only [newExc, newTuple]
  refine wpAny_bind (wpAny_newObj_type ?_ (by size_fits))
  refine wpAny_bind (m := firstArgMember _ _) ?_
  refine wpAny_of_eq (a := Value.none) (by first | rfl | (simp only [firstArgMember]; rfl)) ?_
  refine wpAny_newObj_type ?_ (by size_fits)
  have gy1 : (s.heap.update j (Obj.mapFields (·.setIfInBounds 0 Value.none))).get? y = some oy := (Heap.get?_update_other _ _ (Ne.symm hjy)).trans gy
  have gy2 := Heap.get?_push_of_some { cls := .type "tuple", data := .seq #[] } gy1
  refine raiseNew_hot ⟨hh, oy, vy, Heap.get?_push_of_some _ gy2, dy, cy⟩ (Nat.ne_of_lt (Heap.lt_size gy2)) (Heap.get?_push_size _ rfl) rfl ?_ ?_
  · first
    | (simp; done)
    | (simp only [Array.size_append]; simp; omega)
  refine wpAny_bind (wpAny_isInstance (T := "StopIteration") (b := true) ?_ isSubtype_stop ?_)
  · exact ⟨_, Heap.get?_update_self _ (Heap.get?_push_size _ rfl) rfl, rfl⟩
  refine wpAny_pure (fin _ fun b o hb e => ?_)
  have e1 := (Heap.get?_update_other s.heap (Obj.mapFields (·.setIfInBounds 0 Value.none)) (Ne.symm hb)).trans e
  have e2 := Heap.get?_push_of_some { cls := .type "tuple", data := .seq #[] } e1
  rw [Heap.get?_update_other _ _ (Nat.ne_of_gt (Heap.lt_size e2))]
  exact Heap.get?_push_of_some _ e2
/-- a walk through a list, an exception handled -/
theorem walks_list_hot {prog : Program} {w : World} {A : Around} {y : Addr} {oy : Obj} {vy : Array Value} (hh : A.handled = some (.ref y)) (dy : oy.data = .fields vy) (cy : vy[2]? = some .none) (j ls : Addr) (hne : ls ≠ j) (hjy : y ≠ j) (arr : Array Value) :
    Walks prog w A j [j, ls, y] [j] arr.size (fun i v => arr[i]? = some v) (fun i h => h.IsListIter j ls i ∧ h.IsList ls arr ∧ h.get? y = some oy) where
  sub := fun b hb => by
    have : b = j := by simpa using hb
    simp [this]
  frame := fun _ _ _ st k => ⟨st.1.at fun o e => k j (by simp) o e, st.2.1.at fun o e => k ls (by simp) o e, k y (by simp) _ st.2.2⟩
  item := fun i s Q E hi st hQ => by
    have hx : arr[i]? = some arr[i] := by simp [hi]
    refine wpAny_pyNext_list_item st.1 st.2.1 hx fun g hit sb => ?_
    refine hQ _ g s.toks hx ⟨hit, st.2.1.extBut sb.extBut hne, (sb.2 y hjy).trans st.2.2⟩ fun b o hb e => ?_
    exact sb.extBut b o (fun z => hb (by simp [z])) e
  done := fun s Q E st hQ => by
    refine list_end_hot ⟨hh, oy, vy, st.2.2, dy, cy⟩ st.1 st.2.1 (by simp) hjy fun g eg => ?_
    exact hQ g s.toks fun b o hb e => eg b o (fun z => hb (by simp [z])) e
  self := fun _ _ _ _ st hQ => wpAny_pyIter_listiter st.1 hQ
/-- all(xs) of a list of bools -/
theorem allH {X : Cx} {K : PySem.W.Frag} (hc : HotC X) (e : X.K = K := by rfl) : CallR X (.builtin "all") (rAll K) := by
  subst e
  intro pins s σ H vs us Q I r h
  obtain ⟨l, bs, rfl, hl, q⟩ := h
  obtain ⟨p, ⟨hh, vy, dy, cy⟩, hp⟩ := hc
  obtain ⟨its, rv, pl, _⟩ := I.list hl
  have gp := (I.pin p (List.mem_append_left _ hp)).1
  rw [Vals.ref1 r]
  have hbs := rv.bls
  refine call_all_walk (iter_any pl.isList fun t et st hne => ?_)
  subst et
  have hjy : p.1 ≠ s.heap.objs.size := Nat.ne_of_lt (Heap.lt_size gp)
  refine ⟨_, _, _, _, _, _, _, rfl, walks_list_hot (A := Around.in1 X.A) hh dy cy _ l hne hjy its.toArray, ⟨st.1, st.2, ?_⟩, truth_bools hbs, fun g tk hk => ?_⟩
  · exact Heap.get?_push_of_some _ gp
  refine ⟨.bl _, H, ?_, ?_, q⟩
  · refine I.kept fun b o eo => hk b o (fun hm => ?_) (Heap.get?_push_of_some _ eo)
    have : b = s.heap.objs.size := by simpa using hm
    rw [this] at eo
    exact Nat.lt_irrefl _ (Heap.lt_size eo)
  · show Value.bool _ = Value.bool _
    rw [← L2.all_range, hbs]
    rw [List.size_toArray, List.length_map]
end Sure

/-! List comprehensions while an exception is handled. -/
namespace Sure
open PySem PySem.Spec PyProof.Rows L2 L2H HotX
section
variable {X : Cx} {pins : List (Addr × Obj)} {σ : L2.St} {H : Hp} {s : Shared}
/-- the block's context, the handled exception pinned -/
abbrev blkP (X : Cx) (p : Addr × Obj) (s : Shared) (H : Hp) (sc : Scope) (ce : Env) (fp : List Addr) : Cx := { X.blk s H sc ce fp with pn := [p] }
theorem blkP_start {sc : Scope} {own : List (Str × Nat)} {fp : List Addr} {p : Addr × Obj} (I : Inv X pins σ H s) (bo : BlkOk X.N X.env.scope sc own) (nd : X.N.Nodup) (hp : p ∈ X.pn) (hfp : ∀ b ∈ fp, FpOk X pins H b ∧ b < s.heap.objs.size) :
    Inv (blkP X p s H sc (compEnvC sc (cellsFrom (s.heap.objs.size + 1) sc.names (cloFrom X.env.cells sc.names [])) s.heap.objs.size X.env) fp) [] (wipe σ (own.map (·.2))) H
      { s with heap := pushCells (s.heap.push { cls := .type "dict", data := .dict #[] }) sc.names } := by
  have J := block_start I bo nd hfp
  have P := I.pin p (List.mem_append_left _ hp)
  refine ⟨⟨J.ok.mod, J.ok.kind, J.ok.glob, J.ok.blt, J.ok.above, J.ok.inj, J.ok.has, J.ok.cab, J.ok.hd, J.ok.frames, J.ok.stk, J.ok.exf, J.ok.bs, J.ok.bsz, J.ok.noex, J.ok.exfs, J.ok.funs, J.ok.frf⟩, J.os, J.bare, J.base, J.loc, J.cell, J.free, J.freeC, fun q hq => ?_, J.hok, J.len⟩
  have eq : q = p := by simpa using (show q ∈ [p] ++ ([] : List (Addr × Obj)) from hq)
  subst eq
  refine ⟨pushCells_keeps _ _ _ _ (Heap.get?_push_of_some _ P.1), P.2.1, ?_, fun z => ?_, P.2.2.2.2⟩
  · show q.1 ≠ s.heap.objs.size
    exact Nat.ne_of_lt (Heap.lt_size P.1)
  · exact (List.mem_cons.mp (I.stkSub q.1 z)).elim P.2.2.1 P.2.2.2.1
theorem hotC_blkP {sc : Scope} {ce : Env} {fp : List Addr} {p : Addr × Obj} (hot : Hot1 X.A p) : HotC (blkP X p s H sc ce fp) := ⟨p, hot, List.mem_singleton.mpr rfl⟩
end
section
variable {X : Cx}
theorem lcH_core {pins : List (Addr × Obj)} {s : Shared} {σ : L2.St} {H : Hp} {Q : VK} {elt tg iter : Expr} {ifs : List Expr} {sc : Scope} {own : List (Str × Nat)} {pos pos' : Pos} {wi : TI} {g : TG} {tt : TT} {te : TE} {use : Option (Value → Sem Unit)} {Qf : Value → Shared → Prop}
    (hc : HotC X) (nd : X.N.Nodup) (I : Inv X pins σ H s) (hi : PIH X tg iter wi) (bo : BlkOk X.N X.env.scope sc own)
    (hg : ∀ (p : Addr × Obj) (s : Shared) (H : Hp) (C : Addr) (cl : List (Str × Addr)) (fp : List Addr), Hot1 X.A p → PG (blkP X p s H sc (compEnvC sc cl C X.env) fp) tg g)
    (ht : ∀ (p : Addr × Obj) (s : Shared) (H : Hp) (C : Addr) (cl : List (Str × Addr)) (fp : List Addr), Hot1 X.A p → PTs (blkP X p s H sc (compEnvC sc cl C X.env) fp) ifs tt)
    (he : ∀ (p : Addr × Obj) (s : Shared) (H : Hp) (C : Addr) (cl : List (Str × Addr)) (fp : List Addr), Hot1 X.A p → PE (blkP X p s H sc (compEnvC sc cl C X.env) fp) elt te)
    (hs : ∀ x, foldedSetIterable iter X.env x = pure x) (h : tLc wi g tt te (own.map (·.2)) σ H Q)
    (fin : ∀ D C t m G, Inv X pins σ G t → Q (.ref D) G → t.heap.Ns C m → FpOk X pins G C → compPost (model X.prog X.w) X.A X.xe use Qf (.ref D) C (.ok .next) t) :
    wpAny (model X.prog X.w) X.A (comprehension (.ListComp elt [⟨tg, iter, ifs, 0⟩] sc pos) sc X.env pos' (newList []) false (eval iter X.env) use) Qf X.xe s := by
  obtain ⟨p, hot, hpn⟩ := hc
  have hfree : ∀ y ∈ sc.names, y.2 = .free → ∃ c, X.env.cells.lookup y.1 = some c := fun y hy e =>
    (bo.free y hy e).elim (fun k => I.ok.has _ (.inl k)) fun k => I.ok.has _ (.inr k)
  refine wpAny_comprehension_free (use := use) rfl hs (closure_ok hfree) bo.kind (fun y hy e => by rw [bo.uniq y hy, e]) ?_
  refine thn (hi.run pins s σ H _ I h) fun xv t1 hx => thn hx fun itv t2 h2 => ?_
  obtain ⟨it, fp, tn, J, G2, eit, I2, T, st2, f2, q⟩ := h2
  subst eit
  refine wpAny_newObj_type (newEnv_comp ?_) (by show 0 ≤ sizeLine; decide)
  generalize eD : t2.heap.objs.size = D
  have nD : G2 D = none := I2.hok.fresh (Nat.le_of_eq eD)
  obtain ⟨W, ⟨m0, w0⟩, turn⟩ := q D nD
  generalize e3 : ({ t2 with heap := t2.heap.push { cls := .type "list", data := .seq ([] : List Value).toArray } } : Shared) = t3
  have h3 : t3.heap = t2.heap.push { cls := .type "list", data := .seq ([] : List Value).toArray } := by rw [← e3]
  have I3 : Inv X pins σ (upd G2 D (.lst [])) t3 := by
    rw [← e3]
    refine I2.laid (t' := t2.toks) (fun b o e => Heap.get?_push_of_some _ e) (Nat.le_of_eq eD) ?_
    refine ⟨Nat.zero_le _, [], 0, .nil, ?_⟩
    rw [← eD]
    exact Heap.get?_push_size _ rfl
  have f3 : ∀ b ∈ fp, FpOk X pins (upd G2 D (.lst [])) b ∧ b < t3.heap.objs.size := fun b hb => by
    obtain ⟨o, eo, _⟩ := T.obj _ _ st2 b hb
    have lt := Heap.lt_size eo
    have nbD : b ≠ D := by rw [← eD]; exact Nat.ne_of_lt lt
    refine ⟨⟨?_, (f2 b hb).2⟩, ?_⟩
    · rw [upd_ne nbD]; exact (f2 b hb).1
    · rw [h3, Heap.size_push]; exact Nat.lt_succ_of_lt lt
  have st3 : tn 0 t3.heap := by
    refine T.keep _ _ _ st2 fun b _ o e => ?_
    rw [h3]
    exact Heap.get?_push_of_some _ e
  have I4 := blkP_start (p := p) I3 bo nd hpn f3
  have pg := hg p t3 (upd G2 D (.lst [])) t3.heap.objs.size (cellsFrom (t3.heap.objs.size + 1) sc.names (cloFrom X.env.cells sc.names [])) fp hot
  have pt := ht p t3 (upd G2 D (.lst [])) t3.heap.objs.size (cellsFrom (t3.heap.objs.size + 1) sc.names (cloFrom X.env.cells sc.names [])) fp hot
  have pe := he p t3 (upd G2 D (.lst [])) t3.heap.objs.size (cellsFrom (t3.heap.objs.size + 1) sc.names (cloFrom X.env.cells sc.names [])) fp hot
  have hcb : HotC (blkP X p t3 (upd G2 D (.lst [])) sc (compEnvC sc (cellsFrom (t3.heap.objs.size + 1) sc.names (cloFrom X.env.cells sc.names [])) t3.heap.objs.size X.env) fp) := hotC_blkP hot
  have nfp : ∀ b ∈ fp, (upd G2 D (.lst [])) b = none := fun b hb => (f3 b hb).1.1
  show codeAny _ _ (.compStart (.ListComp elt [⟨tg, iter, ifs, 0⟩] sc pos) 0 (.ref it) (.ref D) (compEnvC sc (cellsFrom (t3.heap.objs.size + 1) sc.names (cloFrom X.env.cells sc.names [])) t3.heap.objs.size X.env))
    (compPost (model X.prog X.w) X.A X.xe use Qf (.ref D) t3.heap.objs.size) { t3 with heap := pushCells (t3.heap.push { cls := .type "dict", data := .dict #[] }) sc.names }
  generalize ece : compEnvC sc (cellsFrom (t3.heap.objs.size + 1) sc.names (cloFrom X.env.cells sc.names [])) t3.heap.objs.size X.env = ce at I4 pg pt pe hcb ⊢
  have cL : ce.locals = t3.heap.objs.size := by subst ece; rfl
  generalize eG3 : upd G2 D (.lst []) = G3 at I3 I4 pg pt pe hcb w0 nfp f3
  generalize e4 : ({ t3 with heap := pushCells (t3.heap.push { cls := .type "dict", data := .dict #[] }) sc.names } : Shared) = t4 at I4 ⊢
  have st4 : tn 0 t4.heap := by
    refine T.keep _ _ _ st3 fun b _ o e => ?_
    rw [← e4]
    exact pushCells_keeps _ _ _ _ (Heap.get?_push_of_some _ e)
  have ppin : ∀ {pn' : List (Addr × Obj)} {σ' : L2.St} {G : Hp} {t : Shared}, Inv (blkP X p t3 G3 sc ce fp) pn' σ' G t → t.heap.get? p.1 = some p.2 := fun {pn' σ' G t} Iq => (Iq.pin p (by simp)).1
  have fpne : ∀ b ∈ fp, p.1 ≠ b := fun b hb => (f3 b hb).1.2.2.2.2.2 p (List.mem_append_left _ hpn)
  have stat : ∀ {σ' : L2.St} {G : Hp} {t : Shared}, Inv (blkP X p t3 G3 sc ce fp) [] σ' G t → (∀ b ∈ fp, G b = none) → ∀ b ∈ fp, FpOk (blkP X p t3 G3 sc ce fp) [] G b := fun {σ' G t} Iq hn b hb => by
    refine ⟨hn b hb, (Iq.ok.exf b hb).1, Iq.ok.exfs b hb, .inl hb, fun x c e => (Iq.ok.exf b hb).2 x c e, fun q hq => ?_⟩
    have eq : q = p := by simpa using (show q ∈ [p] ++ ([] : List (Addr × Obj)) from hq)
    rw [eq]
    exact fpne b hb
  have loop : codeAny (model X.prog X.w) X.A (.compLoop (.ListComp elt [⟨tg, iter, ifs, 0⟩] sc pos) 0 (.ref it) (.ref D) ce) (compPost (model X.prog X.w) X.A X.xe use Qf (.ref D) t3.heap.objs.size) t4 := by
    refine compLoop_any (fun n t => ∃ i G, Inv (blkP X p t3 G3 sc ce fp) [] (wipe σ (own.map (·.2))) G t ∧ tn i t.heap ∧ (∀ b ∈ fp, G b = none) ∧ W i n G) ?_ m0 ⟨0, G3, I4, st4, nfp, w0⟩
    rintro n t5 ⟨i, G5, I5, st5, n5, w5⟩
    rcases turn i n G5 w5 with ⟨stop, qq⟩ | ⟨go, Nx, hNx, step⟩
    · have td := T.done (blkP X p t3 G3 sc ce fp) rfl rfl rfl hcb i [] t5 _ G5 (fun _ _ => False) I5 (stat I5 n5) st5 stop
      refine thnF td fun r t6 ⟨er, I6⟩ => ?_
      subst er
      have I7 : Inv X pins σ G5 t6 := by
        refine I3.call' (ch := fp) I6.os I6.base I6.hok I6.bare fun b hb => ?_
        obtain ⟨⟨_, a1, _, a3, a4, a5⟩, _⟩ := f3 b hb
        exact ⟨a3, a1, a4, a5⟩
      have nC : G5 t3.heap.objs.size = none := by
        have z : G5 ce.locals = none := I6.free
        rwa [cL] at z
      obtain ⟨m, hn, _⟩ := I6.loc
      have hn2 : t6.heap.Ns ce.locals m := hn
      rw [cL] at hn2
      exact fin D t3.heap.objs.size t6 m G5 I7 qq hn2 (I3.fpOk (Nat.le_refl _) nC)
    · have ti := T.item (blkP X p t3 G3 sc ce fp) rfl rfl rfl hcb i [] t5 _ G5 (fun _ _ => False) I5 (stat I5 n5) st5 go
      refine thnF ti fun r t6 ⟨u, er, h6⟩ => ?_
      subst er
      refine thnF h6 fun _ t7 ⟨x, G7, I7, r7, y7, st7, n7⟩ => ?_
      have I7p := I7.pinned (stat I7 n7) (T.obj _ _ st7)
      refine thnF (pg.run _ t7 _ G7 x u _ I7p r7 (step x G7 y7)) fun _ t8 ⟨σ8, G8, I8, w8, q8⟩ => ?_
      refine thnF (pt.run _ t8 σ8 G8 _ I8 q8) fun b t9 ⟨G9, I9, q9⟩ => ?_
      have again : ∀ {t : Shared} {G : Hp}, Inv (blkP X p t3 G3 sc ce fp) ([] ++ pinsAt fp t7.heap) σ8 G t → Nx G → ∃ m, m < n ∧ ∃ i G, Inv (blkP X p t3 G3 sc ce fp) [] (wipe σ (own.map (·.2))) G t ∧ tn i t.heap ∧ (∀ b ∈ fp, G b = none) ∧ W i m G := fun {t G} Iq nx => by
        obtain ⟨m', lt, w'⟩ := hNx G nx
        have len8 : (wipe σ (own.map (·.2))).length = σ8.length := by rw [← w8, wipe_length]
        have at7 : ∀ b ∈ fp, ∀ o, t7.heap.get? b = some o → t.heap.get? b = some o ∧ G b = none := fun b hb o e => by
          have z := Iq.pin (b, o) (List.mem_append_right _ (List.mem_append_right _ (mem_pinsAt hb e)))
          exact ⟨z.1, z.2.1⟩
        refine ⟨m', lt, i + 1, G, ?_, ?_, ?_, w'⟩
        · refine (Iq.unpinned (pins := [])).weak len8 fun j v e => ?_
          rw [← w8] at e
          exact (wipe_some e).1
        · exact T.keep _ _ _ st7 fun b hb o e => (at7 b hb o e).1
        · intro b hb
          obtain ⟨o, e, _⟩ := T.obj _ _ st7 b hb
          exact (at7 b hb o e).2
      cases b with
      | false =>
        simp only [Bool.false_eq_true, if_false] at q9 ⊢
        exact again I9 q9
      | true =>
        simp only [if_true] at q9 ⊢
        refine thnF (pe.run _ t9 σ8 G9 _ I9 q9) fun z t10 ⟨yv, G10, I10, r10, acc, eD10, lt10, nx⟩ => ?_
        exact app_ok (X := blkP X p t3 G3 sc ce fp) I10 eD10 lt10 r10 fun t11 I11 => again I11 nx
  exact codeAny_compStart_list loop (T.self X.A 0 _ _ _ st4 loop)
theorem pe_lcH {elt tg iter : Expr} {ifs : List Expr} {sc : Scope} {own : List (Str × Nat)} {pos : Pos} {wi : TI} {g : TG} {tt : TT} {te : TE} (hc : HotC X) (nd : X.N.Nodup) (hi : PIH X tg iter wi) (bo : BlkOk X.N X.env.scope sc own)
    (hg : ∀ (p : Addr × Obj) (s : Shared) (H : Hp) (C : Addr) (cl : List (Str × Addr)) (fp : List Addr), Hot1 X.A p → PG (blkP X p s H sc (compEnvC sc cl C X.env) fp) tg g)
    (ht : ∀ (p : Addr × Obj) (s : Shared) (H : Hp) (C : Addr) (cl : List (Str × Addr)) (fp : List Addr), Hot1 X.A p → PTs (blkP X p s H sc (compEnvC sc cl C X.env) fp) ifs tt)
    (he : ∀ (p : Addr × Obj) (s : Shared) (H : Hp) (C : Addr) (cl : List (Str × Addr)) (fp : List Addr), Hot1 X.A p → PE (blkP X p s H sc (compEnvC sc cl C X.env) fp) elt te)
    (hs : ∀ x, foldedSetIterable iter X.env x = pure x := by intro _; rfl) : PE X (.ListComp elt [⟨tg, iter, ifs, 0⟩] sc pos) (tLc wi g tt te (own.map (·.2))) := by
  refine ⟨fun pins s σ H Q I h => ?_⟩
  rw [eval_ListComp]
  refine lcH_core hc nd I hi bo hg ht he hs h fun D C t m G J q hn f => ⟨m, hn, fun k sb => ?_⟩
  obtain ⟨a0, a1, a2, a3, a4, a5⟩ := f
  exact ⟨.ref D, G, J.turned (t' := t.toks) (fun b o hb e => (sb.2 b hb).trans e) a0 a1 a3 a4 a5, rfl, q⟩
end
/-! ### defs -/
section
variable {P : Program} {w : World} {K : PySem.W.Frag} {mg : Str → Option Value} {base : Heap}
/-- a def of the text by its body, called while an exception is handled -/
theorem okHot {x qual : Str} {st : Stmt} {f : Addr} {fd : FuncData} {N ps : List Str} {k : Nat} {sp : Sp} (F : Fun K x qual st f fd) (S : FnScope N ps (defScope st)) (len : ∀ vs H Q E, sp vs H Q E → vs.length = ps.length)
    (hb : ∀ (cdv : Value) (A : Around) (outer : List Env) (s : Shared) (H : Hp) (vs : List V) (Q : VK) (E : XK) (p : Addr × Obj), Hot1 A p → RoomH k (A.deeper (envOfC qual (defScope st) s.heap.objs.size f cdv)) → sp vs H Q E →
      ∃ t, PSs (cxH CX0 P w K mg base N qual (defScope st) f cdv A outer s H E p) (defBody st) t ∧ t { nx := fun _ H' => Q .non H', rt := Q } (L2.start N vs) H) : FnH P w K mg base CX0 (k + 1) f fd ps sp := by
  obtain ⟨oc, od, kV, doc, pm, an, cdv, ct, osl, rfl, lk, hcd⟩ := F.ex
  refine fn_ofH lk hcd S len fun A outer s H vs Q E p hot hr hsp => ?_
  exact hb cdv A outer s H vs Q E p hot hr hsp
theorem hotC_cxH {CX : CXT} {N : List Str} {qual : Str} {sc : Scope} {f : Addr} {cd : Value} {A : Around} {outer : List Env} {s : Shared} {H : Hp} {E : XK} {p : Addr × Obj} (hot : Hot1 A p) : HotC (cxH CX P w K mg base N qual sc f cd A outer s H E p) :=
  ⟨p, ⟨hot.1, hot.2⟩, List.mem_singleton.mpr rfl⟩
structure DefH (P : Program) (w : World) (K : PySem.W.Frag) (mg : Str → Option Value) (base : Heap) (CX : CXT) (k : Nat) (x : Str) (ps : List Str) (sp : Sp) : Prop where
  ex : ∃ (f : Addr) (fd : FuncData), FnH P w K mg base CX k f fd ps sp ∧ mg x = some (.ref f) ∧ PySem.W.keepIn K (.ref f) = true ∧ Binds K fd ps []
end
section
variable {X : Cx} {CX : CXT} {k : Nat} {ps : List Str} {sp : Sp} {x : Str} {p pos : Pos} {e : Expr} {es : List Expr} {t : TA}
theorem pe_callDH {E : L2.St → XK} (D : DefH X.prog X.w X.K X.mg X.base CX k x ps sp) (hr : RoomH k X.A) (hc : HotC X) (hx : ∀ σ, PassesAt CX X σ (E σ)) (ha : PA X (e :: es) t) (hg : Gl X x := by rfl) (hdb : (x == ("__debug__" : Str)) = false := by decide)
    (he : starEach (e :: es) X.env = (false, eval e X.env) :: starEach es X.env := by rfl) (hpl : (backTo pos (starEach es X.env)).any (·.1) = false := by rfl) : PE X (.Call (.Name x p) (e :: es) [] pos) (tCallS sp E t) := by
  obtain ⟨f, fd, F, a, b, c⟩ := D.ex
  exact pe_callH F hr hc hg a b c hx ha hdb he hpl
theorem pass0S {X : Cx} {E : L2.St → XK} : ∀ σ, PassesAt CX0 X σ (E σ) := fun _ _ _ _ _ _ _ h => h.elim
end
end Sure

/-! An own exception with an own __init__, raised where nothing is handled: its context is None. -/
namespace Sure
open PySem PySem.Spec PyProof.Rows L2 L2H HotX
theorem pmkN_oex {X : Cx} {CX : CXT} {x : Str} {C fI : Addr} {k : Nat} {fd : FuncData} {ps : List Str} {sp : Sp} {e : Expr} {es : List Expr} {ta : TA} {p pos : Pos}
    (T : OexC X.K C) (iC : PySem.W.findIn X.K (.ref C) "__init__" = some (some (.ref fI))) (tI : PySem.W.typeIn X.K (.ref fI) = some (.type "function"))
    (F1 : FnOk X.prog X.w X.K X.mg X.base CX k fI fd ps sp) (room : Room (k + 1) X.A) (hb : Binds X.K fd ps []) (hx : Passes CX X (fun _ _ _ => False)) (hg : Gl X x) (hm : X.mg x = some (.ref C)) (ha : PA X (e :: es) ta)
    (hdb : (x == ("__debug__" : Str)) = false := by decide) (he : starEach (e :: es) X.env = (false, eval e X.env) :: starEach es X.env := by rfl) (hpl : (backTo pos (starEach es X.env)).any (·.1) = false := by rfl) :
    L2N.PMk X (.Call (.Name x p) (e :: es) [] pos) (tMkO C sp [] ta) := by
  intro pins s σ H Q I h
  obtain ⟨c1, c2, c3, c4, mr, c6, c7, c8, c9, c10, i0, i1, i2, i3, i5, hC, hmr⟩ := T.cls
  refine wpAny_Call_Name_kw (ld_glob I hg hm ?_ hdb)
  refine PySem.W.callWith_K (h₀ := X.base) I.ok.mod.kin T.kC ?_ he hpl
  refine thn (ha.run pos pins s σ H _ I h) fun us u1 ⟨vs, G1, I1, r1, hz, q1⟩ => ⟨I1.kIn, ?_⟩
  show wpAny _ _ (call (.ref C) us) _ _ _
  obtain ⟨h0, g, dr, tk, os⟩ := u1
  have le1 : h0.objs.size ≤ h0.objs.size + 1 := Nat.le_succ _
  have hq := q1 (h0.objs.size + 1) (I1.hok.fresh le1)
  rw [List.append_nil] at hq
  generalize eh1 : (h0.push (PySem.W.kdv_tup us)).push (PySem.HandSPX.excO C h0.objs.size) = h1 at *
  have kk : ∀ b o, h0.get? b = some o → h1.get? b = some o := fun b o eb => by
    rw [← eh1]
    exact Heap.get?_push_of_some _ (Heap.get?_push_of_some _ eb)
  have get1 : h1.get? (h0.objs.size + 1) = some (PySem.HandSPX.excO C h0.objs.size) := by
    rw [← eh1]
    heap_get
  have I2 : Inv X pins σ (upd G1 (h0.objs.size + 1) (exo (h0.objs.size + 1) C none)) ⟨h1, g, dr, tk, os⟩ :=
    I1.laid (t' := tk) (a := h0.objs.size + 1) (o := exo (h0.objs.size + 1) C none) (h' := h1) kk le1 (exo_ok get1)
  have r2 : Vals (V.ref (h0.objs.size + 1) :: vs) (Value.ref (h0.objs.size + 1) :: us) := .cons rfl r1
  have len2 : (Value.ref (h0.objs.size + 1) :: us ++ []).length = ps.length := by
    have ez := r2.length
    rw [F1.len _ _ _ _ hq] at ez
    rw [List.append_nil, ez]
  have b2 := hb _ (Value.ref (h0.objs.size + 1) :: us) I2.kIn len2
  rw [List.append_nil] at b2
  have small : us.length ≤ sizeLine := by
    rw [← Paired.length r1, sizeLine_eq]
    omega
  have run := F1.run (X.A.under (.builtin "type.__call__" ⟨.ref C :: us, []⟩)) X.stack ⟨h1, g, dr, tk, os⟩ _ ⟨Value.ref (h0.objs.size + 1) :: us, []⟩ (Value.ref (h0.objs.size + 1) :: us) _ _ (fun _ _ _ => False) (room.make C us []) (I2.env0.make C us []) b2 r2 hq
  refine wpAny_call (PySem.HandSPX.call_own F.excBase_ValueError (fun Y => PySem.HandSPX.refsVE_contains Y mr hmr) (I1.kIn _ _ hC) (PySem.W.looks_findIn I1.kIn iC) (fun self => PySem.W.bind_fn I1.kIn self tI) small ?_)
  rw [eh1]
  refine codeAny_mono run fun r t hr => ?_
  cases r with
  | error er => exact hx pins σ _ _ er t I2 hr
  | ok fl =>
    cases fl with
    | next => exact hr.elim
    | brk => exact hr.elim
    | cont => exact hr.elim
    | ret u =>
      obtain ⟨v, G2, os2, bare2, un2, hok2, rv, ev, d, fs, ea, ed, nd1, q2⟩ := hr
      subst ev
      obtain ⟨h2, g2, d2, t2, os'⟩ := t
      obtain ⟨t0, G, J, kG, ge, hoe, na⟩ := mk_end0 (d2 := d2) (t2 := t2) I1 le1 kk un2 hok2 os2 bare2 ea ed nd1
      have zn : L2N.Zn (.ref C) (some d) { cls := .ref C, dict := some d, data := .fields #[.ref t0, .none, .none, .none, .bool false, .none] } := ⟨rfl, rfl, fun ws hv => by
        cases hv
        rfl⟩
      exact ⟨rv, h0.objs.size + 1, _, _, ⟨G, g2, d2, t2, os'⟩, _, .ref C, some d, rfl, J, kG, ge, hoe, zn, rfl, rfl, na, rfl, bare2, raises_own T.exC T.tyC, q2⟩
section
variable {P : Program} {w : World} {K : PySem.W.Frag} {mg : Str → Option Value} {base : Heap}
/-- a def that raises, where nothing is handled -/
theorem okXN {x qual : Str} {st : Stmt} {f : Addr} {fd : FuncData} {N ps : List Str} {k : Nat} {sp : Sp} (F : Fun K x qual st f fd) (S : FnScope N ps (defScope st)) (len : ∀ vs H Q E, sp vs H Q E → vs.length = ps.length)
    (hb : ∀ (cdv : Value) (A : Around) (outer : List Env) (s : Shared) (H : Hp) (vs : List V) (Q : VK) (E : XK), Room k (A.deeper (envOfC qual (defScope st) s.heap.objs.size f cdv)) → sp vs H Q E →
      ∃ t, PSs (cxOf (L2N.CX P w) P w K mg base N qual (defScope st) f cdv A outer s H E) (defBody st) t ∧ t { nx := fun _ H' => Q .non H', rt := Q } (L2.start N vs) H) : FnOk P w K mg base (L2N.CX P w) (k + 1) f fd ps sp := by
  obtain ⟨oc, od, kV, doc, pm, an, cdv, ct, osl, rfl, lk, hcd⟩ := F.ex
  exact fn_of lk hcd S len fun A outer s H vs Q E hr hsp => hb cdv A outer s H vs Q E hr hsp
end
end Sure

/-! What a head tells of defs and own exceptions. -/
namespace Sure
open PySem PySem.Spec PyProof.Rows L2
theorem fun_of {K : PySem.W.Frag} {x qual : Str} {st : Stmt} {kws : List (Str × V)} {f : Addr} {fd : FuncData} (F : FunD K x qual (defArgs st) (defBody st) (defScope st) [] kws f fd) : Fun K x qual st f fd := by
  obtain ⟨oc, od, dV, kV, doc, pm, an, cdv, ct, osl, e, lk, hcd, hD, _⟩ := F.ex
  rcases hD with ⟨_, rfl⟩ | ⟨z, _⟩
  · exact ⟨⟨oc, od, kV, doc, pm, an, cdv, ct, osl, e, lk, hcd⟩, F.kp⟩
  · exact absurd rfl z
/-- an own exception class over ValueError, by its look -/
def oexB (K : PySem.W.Frag) (C : Addr) : Bool := (match K.lookup C with
  | some ⟨.type "type", _, .cls cd, sl⟩ => (match cd.mro, sl.toList with
    | .ref D :: bm, [_, _, _, _, some (.builtin n), _] => D == C && (n == "ValueError.__new__" && (!cd.hasDel && (cd.hasDict && PySem.HandSPX.refsVE bm)))
    | _, _ => false)
  | _ => false) &&
  (decide (PySem.W.findIn K (.ref C) "__setattr__" = some (some (.builtin "object.__setattr__"))) && (decide (PySem.W.subIn K (.ref C) (.type "BaseException") = some true) && (decide (PySem.W.typeIn K (.ref C) = some (.type "type")) && PySem.W.keepIn K (.ref C))))
theorem oexB_ok {K : PySem.W.Frag} {C : Addr} (h : oexB K C = true) : OexC K C := by
  obtain ⟨h1, h⟩ := Bool.and_eq_true_iff.mp h
  obtain ⟨h2, h⟩ := Bool.and_eq_true_iff.mp h
  obtain ⟨h3, h⟩ := Bool.and_eq_true_iff.mp h
  obtain ⟨h4, h5⟩ := Bool.and_eq_true_iff.mp h
  refine ⟨?_, of_decide_eq_true h2, of_decide_eq_true h3, of_decide_eq_true h4, h5⟩
  split at h1
  · rename_i dd cd sl ho
    split at h1
    · rename_i D bm k0 k1 k2 k3 n k5 hm hs
      simp only [Bool.and_eq_true, beq_iff_eq, Bool.not_eq_true'] at h1
      obtain ⟨rfl, rfl, z1, z2, z3⟩ := h1
      obtain ⟨nm, bs, mro, ns, qn, hd, sn, sub, ab, col, dl⟩ := cd
      dsimp only at hm z1 z2
      subst hm z1 z2
      have hsl : sl = #[k0, k1, k2, k3, some (.builtin "ValueError.__new__"), k5] := by
        obtain ⟨l⟩ := sl
        simp only at hs
        rw [hs]
      subst hsl
      exact ⟨nm, qn, ns, bs, bm, sn, sub, ab, col, dd, k0, k1, k2, k3, k5, ho, z3⟩
    · cases h1
  · cases h1
/-- a def told: its place, its names, its row's statement -/
def dd (x : Str) (st : Stmt) : He.DefD := ⟨(x, none), x, x, defArgs st, defBody st, defScope st, [], []⟩
def dm (C m q : Str) (st : Stmt) : He.DefD := ⟨(C, some m), m, q, defArgs st, defBody st, defScope st, [], []⟩
end Sure

namespace Sure
open PySem PySem.Spec PyProof.Rows L2
def topS (i : Nat) : Stmt := PySem.Challenge.pw_sureplan_k85_tokens_and_places.main.body.getD i (.Pass ⟨0, 0, 0, 0⟩)
abbrev s_scan : Stmt := topS 6
theorem sc_scan : FnScope ["text", "found", "line", "column", "word", "comment", "char"] ["text"] (defScope s_scan) := ⟨rfl, rfl, rfl, by decide +kernel, rfl, by decide +kernel, by decide +kernel⟩
abbrev s_end_of : Stmt := topS 7
theorem sc_end_of : FnScope ["text"] ["text"] (defScope s_end_of) := ⟨rfl, rfl, rfl, by decide +kernel, rfl, by decide +kernel, by decide +kernel⟩
abbrev s__law_stream : Stmt := topS 9
theorem sc__law_stream : FnScope ["_law_script"] ["_law_script"] (defScope s__law_stream) := ⟨rfl, rfl, rfl, by decide +kernel, rfl, by decide +kernel, by decide +kernel⟩
abbrev s__law_next : Stmt := topS 10
theorem sc__law_next : FnScope ["_law_stream_here", "_law_many", "_law_k", "_law_cell", "_law_digit"] ["_law_stream_here", "_law_many"] (defScope s__law_next) := ⟨rfl, rfl, rfl, by decide +kernel, rfl, by decide +kernel, by decide +kernel⟩
abbrev s__law_is_integer : Stmt := topS 11
theorem sc__law_is_integer : FnScope ["_law_actual"] ["_law_actual"] (defScope s__law_is_integer) := ⟨rfl, rfl, rfl, by decide +kernel, rfl, by decide +kernel, by decide +kernel⟩
abbrev s__law_equal : Stmt := topS 12
theorem sc__law_equal : FnScope ["_law_actual", "_law_due", "_law_at"] ["_law_actual", "_law_due"] (defScope s__law_equal) := ⟨rfl, rfl, rfl, by decide +kernel, rfl, by decide +kernel, by decide +kernel⟩
abbrev s__law_gap : Stmt := topS 13
theorem sc__law_gap : FnScope ["_law_stream_here", "_law_tight", "_law_gaps"] ["_law_stream_here", "_law_tight"] (defScope s__law_gap) := ⟨rfl, rfl, rfl, by decide +kernel, rfl, by decide +kernel, by decide +kernel⟩
abbrev s__law_laid : Stmt := topS 14
theorem sc__law_laid : FnScope ["_law_stream_here", "_law_words_here", "_law_text", "_law_places", "_law_k", "_law_word", "_law_tight"] ["_law_stream_here", "_law_words_here"] (defScope s__law_laid) := ⟨rfl, rfl, rfl, by decide +kernel, rfl, by decide +kernel, by decide +kernel⟩
abbrev s__law_words : Stmt := topS 15
theorem sc__law_words : FnScope ["_law_stream_here", "_law_chars", "_law_words_here", "_law_k", "_law_pick", "_law_at"] ["_law_stream_here"] (defScope s__law_words) := ⟨rfl, rfl, rfl, by decide +kernel, rfl, by decide +kernel, by decide +kernel⟩
abbrev s__law_refused : Stmt := topS 16
theorem sc__law_refused : FnScope ["_law_text", "_law_due", "problem"] ["_law_text", "_law_due"] (defScope s__law_refused) := ⟨rfl, rfl, rfl, by decide +kernel, rfl, by decide +kernel, by decide +kernel⟩
abbrev s_law : Stmt := topS 17
theorem sc_law : FnScope ["_law_script", "_law_stream_here", "_law_words_here", "_law_text", "_law_places", "_law_due", "_law_lines", "_law_strange", "_law_k", "_law_into", "_law_at", "_law_behind", "_law_line"] ["_law_script"] (defScope s_law) := ⟨rfl, rfl, rfl, by decide +kernel, rfl, by decide +kernel, by decide +kernel⟩

/-- what the top leaves under its names -/
structure GF (K : PySem.W.Frag) (mg : Str → Option Value) : Prop where
  n_len : mg "len" = none
  n_abs : mg "abs" = none
  n_int : mg "int" = none
  n_bool : mg "bool" = none
  n_str : mg "str" = none
  n_tuple : mg "tuple" = none
  n_list : mg "list" = none
  n_isinstance : mg "isinstance" = none
  n_all : mg "all" = none
  n_sum : mg "sum" = none
  n_range : mg "range" = none
  n_enumerate : mg "enumerate" = none
  c_BLANKS : ∃ t, mg "BLANKS" = some (.str " \n\t" t)
  c_WORDS : ∃ t, mg "WORDS" = some (.str "abcdefghijklmnopqrstuvwxyzABCDEFGHIJKLMNOPQRSTUVWXYZ0123456789_?-+*<>=" t)
section
variable {P : Program} {w : World} {K : PySem.W.Frag} {mg : Str → Option Value} {base : Heap}

/-! ### the stream of draws -/
/-- a stream at a: the script's numbers at l, the rest of a cell, the next cell -/
def Stm (H : Hp) (a l : Addr) (ns : List Int) : Prop := ∃ (c : Int) (k : Nat), H a = some (.lst [.ref l, .int c, .int (k : Int)]) ∧ l ≠ a ∧ H l = some (.lst (ns.map V.int)) ∧ 0 ≤ c
theorem Stm.mono {H H' : Hp} {a l : Addr} {ns : List Int} (s : Same H H') (h : Stm H a l ns) : Stm H' a l ns := by
  obtain ⟨c, k, h1, h2, h3, h5⟩ := h
  exact ⟨c, k, s _ _ h1, h2, s _ _ h3, h5⟩
theorem Stm.ne {H : Hp} {a l p : Addr} {ns : List Int} (h : Stm H a l ns) (n : H p = none) : p ≠ a ∧ p ≠ l := by
  obtain ⟨c, k, h1, h2, h3, h5⟩ := h
  exact ⟨fun e => (by rw [e, h1] at n; cases n), fun e => (by rw [e, h3] at n; cases n)⟩
theorem Stm.upd {H : Hp} {a l p : Addr} {ns : List Int} {o : HO} (h : Stm H a l ns) (n1 : p ≠ a) (n2 : p ≠ l) : Stm (L2.upd H p o) a l ns := by
  obtain ⟨c, k, h1, h2, h3, h5⟩ := h
  exact ⟨c, k, by rw [upd_ne (Ne.symm n1)]; exact h1, h2, by rw [upd_ne (Ne.symm n2)]; exact h3, h5⟩
def sp_stream (K : PySem.W.Frag) : Sp := fun vs H Q _ => ∃ (l : Addr) (ns : List Int), vs = [.ref l] ∧ SqL K H l (ns.map V.int) ∧ ∀ H' a l, Same H H' → H a = none → H l = none → Stm H' a l ns → Q (.ref a) H'
theorem ok_stream {f : Addr} {fd : FuncData} (F : Fun K "_law_stream" "_law_stream" s__law_stream f fd) (G : GF K mg) : FnOk P w K mg base CX0 1 f fd ["_law_script"] (sp_stream K) := by
  refine F.ok sc__law_stream (fun vs H Q E h => ?_) (fun cdv A outer s H vs Q E hr h => ?_)
  · obtain ⟨_, _, rfl, _⟩ := h
    rfl
  · obtain ⟨l, ns, rfl, hS, q⟩ := h
    refine ⟨_, (pss_one (ps_ret (pe_lst (pa_cons (pe_callTy call_list_of (by rfl) G.n_list (by decide +kernel) (pa_cons (pv 0) pa_nil)) (pa_cons pe_int (pa_cons pe_int pa_nil)))))), ?_⟩
    refine ⟨.ref l, rfl, l, ns.map V.int, rfl, .inl hS, fun p np => ⟨small_le (by simp), fun a na => ?_⟩⟩
    have s1 : Same H (upd H p (.lst (ns.map V.int))) := same_upd np
    have s2 := same_upd2 (o := .lst [.ref p, .int 0, .int 0]) s1 (s1.free na)
    have npa : p ≠ a := fun e => by
      rw [← e, upd_same] at na
      cases na
    refine q _ a p s2 (s1.free na) np ⟨0, 0, upd_same, npa, ?_, Int.le_refl 0⟩
    rw [upd_ne npa, upd_same]

/-- a draw below many: the stream alone has changed -/
def sp_next (K : PySem.W.Frag) : Sp := fun vs H Q _ => ∃ (a l : Addr) (ns : List Int) (m : Int), vs = [.ref a, .int m] ∧ Stm H a l ns ∧ 0 < m ∧ m ≤ 1000000 ∧ ∀ H' d, SameBut a H H' → Stm H' a l ns → 0 ≤ d → d < m → Q (.int d) H'
end
end Sure

namespace Sure
open PySem PySem.Spec PyProof.Rows L2
section
variable {P : Program} {w : World} {K : PySem.W.Frag} {mg : Str → Option Value} {base : Heap}
theorem small64 {i : Int} (h1 : -(2 ^ 64) < i) (h2 : i < 2 ^ 64) (j : Int) : CMul j i := .inr ⟨h1, h2⟩
theorem ok_next {f : Addr} {fd : FuncData} (F : Fun K "_law_next" "_law_next" s__law_next f fd) (G : GF K mg) : FnOk P w K mg base CX0 1 f fd ["_law_stream_here", "_law_many"] (sp_next K) := by
  refine F.ok sc__law_next (fun vs H Q E h => ?_) (fun cdv A outer s H vs Q E hr h => ?_)
  · obtain ⟨_, _, _, _, rfl, _⟩ := h
    rfl
  · obtain ⟨a, l, ns, m, rfl, hS, m0, m1, q⟩ := h
    refine ⟨_, (Evl.pss_cut (ps_if (pt_cmpR op_eq (pe_ix ix_list (pv 0) pe_int (fun _ _ => rfl)) pe_int (nomark _))
        (pss_cons (ps_set (i := 2) sc__law_next.nd rfl (Or.inl rfl) (pe_ix ix_list (pv 0) pe_int (fun _ _ => rfl)))
        (pss_cons (ps_set (i := 3) sc__law_next.nd rfl (Or.inl rfl) (pe_op op_add pe_int (pv 2)))
        (Evl.pss_cut (ps_if (pt_cmpR op_lt (pv 2) (pe_callB call_len_seq (by rfl) G.n_len PySem.boot_len (pa_cons (pe_ix ix_list (pv 0) pe_int (fun _ _ => rfl)) pa_nil)) (nomark _))
            (pss_one (ps_set (i := 3) sc__law_next.nd rfl (Or.inl rfl) (pe_callB call_abs (by rfl) G.n_abs (by decide +kernel) (pa_cons (pe_ix ix_list (pe_ix ix_list (pv 0) pe_int (fun _ _ => rfl)) (pv 2) (fun _ _ => rfl)) pa_nil))))
            pss_nil)
        (Evl.pss_cut (ps_if (pt_cmpR op_lt (pv 3) (pe_op op_pow pe_int pe_int) (nomark _))
            (pss_cons (ps_set (i := 3) sc__law_next.nd rfl (Or.inl rfl) (pe_op op_mod (pe_callTy call_int1 (by rfl) G.n_int (by decide +kernel) (pa_cons (pe_op op_add (pe_op op_add (pe_op op_mul (pv 3) pe_int) (pe_op op_mul (pv 2) pe_int)) pe_int) pa_nil)) pe_int))
            (pss_one (ps_set (i := 3) sc__law_next.nd rfl (Or.inl rfl) (pe_op op_add (pe_op op_mul (pe_op op_mod (pe_callTy call_int1 (by rfl) G.n_int (by decide +kernel) (pa_cons (pe_op op_add (pe_op op_mul (pv 3) pe_int) pe_int) pa_nil)) pe_int) pe_int) (pv 3)))))
            pss_nil)
        (pss_cons (ps_asg (pv 3) (pg_sub (pv 0) pe_int set_list))
        (pss_one (ps_asg (pe_op op_add (pv 2) pe_int) (pg_sub (pv 0) pe_int set_list))))))))
        pss_nil)
    (pss_cons (ps_set (i := 4) sc__law_next.nd rfl (Or.inl rfl) (pe_op op_mod (pe_callTy call_int1 (by rfl) G.n_int (by decide +kernel) (pa_cons (pe_ix ix_list (pv 0) pe_int (fun _ _ => rfl)) pa_nil)) (pv 1)))
    (pss_cons (ps_asg (pe_op op_fdiv (pe_ix ix_list (pv 0) pe_int (fun _ _ => rfl)) (pv 1)) (pg_sub (pv 0) pe_int set_list))
    (pss_one (ps_ret (pv 4)))))), ?_⟩
    -- behind the first if: a stream again
    refine ⟨fun σ' H' => ∃ x2 x3, σ' = [some (.ref a), some (.int m), x2, x3, none] ∧ SameBut a H H' ∧ Stm H' a l ns, ?_, fun σ' H' hM => ?_⟩
    · obtain ⟨c, k, h1, hla, h3, h5⟩ := hS
      refine ⟨.ref a, rfl, a, _, 1, _, rfl, rfl, SqL.of h1, rfl, rfl, _, rfl, ite2 (fun e => ?_) (fun e => ?_)⟩
      · -- a new cell
        refine ⟨.ref a, rfl, a, _, 2, _, rfl, rfl, SqL.of h1, rfl, _, rfl, 7, (k : Int), rfl, rfl, ?_⟩
        refine ⟨fun σ' H' => ∃ z : Int, σ' = [some (.ref a), some (.int m), some (.int (k : Int)), some (.int z), none] ∧ H' = H ∧ 0 ≤ z, ?_, fun σ' H' hM => ?_⟩
        · refine ⟨_, rfl, .ref a, rfl, a, _, 0, _, rfl, rfl, SqL.of h1, rfl, l, ns.map V.int, rfl, .inl (SqL.of h3), _, _, rfl, rfl, _, rfl, ite2 (fun e2 => ?_) (fun e2 => ?_)⟩
          · have hk : k < ns.length := by
              have e3 : (k : Int) < ((ns.map V.int).length : Int) := of_decide_eq_true e2
              rw [List.length_map] at e3
              omega
            refine ⟨.ref a, rfl, a, _, 0, _, rfl, rfl, SqL.of h1, rfl, _, rfl, l, _, (k : Int), _, rfl, rfl, SqL.of h3, atI_nat (by rw [List.getElem?_map, List.getElem?_eq_getElem hk]; rfl), _, rfl, ?_⟩
            refine ⟨_, rfl, rfl, ?_⟩
            split <;> omega
          · exact ⟨_, rfl, rfl, by omega⟩
        · obtain ⟨z, rfl, rfl, hz⟩ := hM
          refine ⟨fun σ'' H'' => ∃ y : Int, σ'' = [some (.ref a), some (.int m), some (.int (k : Int)), some (.int y), none] ∧ H'' = H' ∧ 0 ≤ y, ?_, fun σ'' H'' hM => ?_⟩
          · refine ⟨_, rfl, 10, 18, rfl, rfl, ⟨by decide, by decide, by decide⟩, _, _, rfl, rfl, _, rfl, ite2 (fun e2 => ?_) (fun e2 => ?_)⟩
            · refine ⟨_, rfl, z, 48271, rfl, rfl, .inr ⟨by decide, by decide⟩, _, rfl, _, 69621, rfl, rfl, .inr ⟨by decide, by decide⟩, _, _, rfl, rfl, _, _, rfl, rfl, .inl ⟨_, rfl, ?_⟩⟩
              refine ⟨_, _, rfl, rfl, (show (0 : Int) < 2147483647 by decide), ?_⟩
              refine ⟨_, rfl, _, 16807, rfl, rfl, .inr ⟨by decide, by decide⟩, _, _, rfl, rfl, .inl ⟨_, rfl, ?_⟩⟩
              refine ⟨_, _, rfl, rfl, (show (0 : Int) < 2147483647 by decide), _, _, rfl, rfl, .inr ⟨by decide, by decide⟩, _, rfl, _, _, rfl, rfl, ?_⟩
              refine ⟨_, rfl, rfl, ?_⟩
              have g1 := Int.emod_nonneg (z * 48271 + ↑k * 69621 + 11) (show (2147483647 : Int) ≠ 0 by decide)
              have g2 := Int.emod_nonneg ((z * 48271 + ↑k * 69621 + 11) % 2147483647 * 16807 + 13) (show (2147483647 : Int) ≠ 0 by decide)
              omega
            · exact ⟨_, rfl, rfl, hz⟩
          · obtain ⟨y, rfl, rfl, hy⟩ := hM
            refine ⟨_, rfl, .ref a, rfl, a, _, 1, 1, rfl, rfl, h1, rfl, ?_⟩
            refine ⟨_, rfl, _, _, rfl, rfl, .ref a, rfl, a, _, 2, 2, rfl, rfl, upd_same, rfl, ?_⟩
            refine ⟨_, _, rfl, SameBut.upd (SameBut.upd (SameBut.refl _ _)), y, k + 1, ?_, hla, ?_, hy⟩
            · rw [upd_same]
              rfl
            · exact (SameBut.upd (SameBut.upd (SameBut.refl a _))) _ _ hla h3
      · exact ⟨none, none, rfl, SameBut.refl _ _, c, k, h1, hla, h3, h5⟩
    · obtain ⟨x2, x3, rfl, sb, c, k, h1, hla, h3, h5⟩ := hM
      refine ⟨.ref a, rfl, a, _, 1, _, rfl, rfl, SqL.of h1, rfl, .inl ⟨c, rfl, ?_⟩⟩
      refine ⟨_, rfl, _, _, rfl, rfl, m0, ?_⟩
      refine ⟨.ref a, rfl, a, _, 1, _, rfl, rfl, SqL.of h1, rfl, _, rfl, _, _, rfl, rfl, ⟨m0, by omega⟩, ?_⟩
      refine ⟨.ref a, rfl, a, _, 1, 1, rfl, rfl, h1, rfl, ?_⟩
      refine ⟨_, rfl, ?_⟩
      refine q _ _ (SameBut.upd sb) ⟨c / m, k, upd_same, hla, ?_, Int.ediv_nonneg h5 (Int.le_of_lt m0)⟩ (Int.emod_nonneg _ (by omega)) (Int.emod_lt_of_pos _ m0)
      exact (SameBut.upd (SameBut.refl a _)) _ _ hla h3
end
end Sure

namespace Sure
open PySem PySem.Spec PyProof.Rows L2
section
variable {P : Program} {w : World} {K : PySem.W.Frag} {mg : Str → Option Value} {base : Heap}
def sp_isint (K : PySem.W.Frag) : Sp := fun vs H Q _ => ∃ (x : V) (d : PyData), vs = [x] ∧ Dp K H x d ∧ Q (.bl (isT (tyN d) "int" && !isT (tyN d) "bool")) H
theorem ok_isint {f : Addr} {fd : FuncData} (F : Fun K "_law_is_integer" "_law_is_integer" s__law_is_integer f fd) (G : GF K mg) : FnOk P w K mg base CX0 1 f fd ["_law_actual"] (sp_isint K) := by
  refine F.ok sc__law_is_integer (fun vs H Q E h => ?_) (fun cdv A outer s H vs Q E hr h => ?_)
  · obtain ⟨_, _, rfl, _⟩ := h
    rfl
  · obtain ⟨x, d, rfl, hd, q⟩ := h
    refine ⟨_, (pss_one (ps_ret (pe_and (pe_callB isiV (by rfl) G.n_isinstance (by decide +kernel) (pa_cons (pv 0) (pa_cons (pe_tyN "int" (by rfl) G.n_int (by decide +kernel)) pa_nil))) (pe_one (pe_not (pe_callB isiV (by rfl) G.n_isinstance (by decide +kernel) (pa_cons (pv 0) (pa_cons (pe_tyN "bool" (by rfl) G.n_bool (by decide +kernel)) pa_nil)))))))), ?_⟩
    refine ⟨x, rfl, x, _, _, _, _, rfl, .ty "int", tyx_dp hd, kit_all _ (tyN_mem d) _ (by decide), _, rfl, ite2 (fun e => ?_) (fun e => ?_)⟩
    · refine ⟨x, rfl, x, _, _, _, _, rfl, .ty "bool", tyx_dp hd, kit_all _ (tyN_mem d) _ (by decide), _, rfl, ?_⟩
      rw [e, Bool.true_and] at q
      exact q
    · have e2 : isT (tyN d) "int" = false := by simpa using e
      rw [e2, Bool.false_and] at q
      exact q
def spE (K : PySem.W.Frag) : Nat → Sp
  | 0 => fun _ _ _ _ => False
  | n + 1 => fun vs H Q _ => ∃ (x y : V) (d : PyData), vs = [x, y] ∧ Dp K H x d ∧ Dp K H y d ∧ okD n d ∧ ∀ H', Same H H' → Q (.bl true) H'
theorem ok_equal {f : Addr} {fd : FuncData} (F : Fun K "_law_equal" "_law_equal" s__law_equal f fd) (G : GF K mg) (bE : Binds K fd ["_law_actual", "_law_due"] []) (gE : mg "_law_equal" = some (.ref f)) (DI : DefOk P w K mg base CX0 1 "_law_is_integer" ["_law_actual"] (sp_isint K)) :
    ∀ n, FnOk P w K mg base CX0 (n + 2) f fd ["_law_actual", "_law_due"] (spE K n)
  | 0 => ⟨fun _ _ _ _ h => h.elim, fun _ _ _ _ _ _ _ _ _ _ _ _ _ h => h.elim⟩
  | n + 1 => by
    have IH := ok_equal F G bE gE DI n
    have D__law_equal : DefOk P w K mg base CX0 (n + 2) "_law_equal" ["_law_actual", "_law_due"] (spE K n) := ⟨f, fd, IH, gE, F.kp, bE⟩
    refine F.ok sc__law_equal (fun vs H Q E h => ?_) (fun cdv A outer s H vs Q E hr h => ?_)
    · obtain ⟨_, _, _, rfl, _⟩ := h
      rfl
    · obtain ⟨x, y, d, rfl, hx, hy, hd, q⟩ := h
      refine ⟨_, (pss_cons (ps_if (pt_cmpR op_isN (pv 1) pe_non (nomark _))
        (pss_one (ps_ret (pe_cmpR op_isN (pv 0) pe_non (nomark _))))
        pss_nil)
    (pss_cons (ps_if (pt_val (pe_callB isiV (by rfl) G.n_isinstance (by decide +kernel) (pa_cons (pv 1) (pa_cons (pe_tyN "bool" (by rfl) G.n_bool (by decide +kernel)) pa_nil))))
        (pss_one (ps_ret (pe_and (pe_callB isiV (by rfl) G.n_isinstance (by decide +kernel) (pa_cons (pv 0) (pa_cons (pe_tyN "bool" (by rfl) G.n_bool (by decide +kernel)) pa_nil))) (pe_one (pe_cmpR op_eq (pv 0) (pv 1) (nomark _))))))
        pss_nil)
    (pss_cons (ps_if (pt_val (pe_callB isiV (by rfl) G.n_isinstance (by decide +kernel) (pa_cons (pv 1) (pa_cons (pe_tyN "int" (by rfl) G.n_int (by decide +kernel)) pa_nil))))
        (pss_one (ps_ret (pe_and (pe_callD DI (hr.mono (by omega)) pass0 (pa_cons (pv 0) pa_nil)) (pe_one (pe_cmpR op_eq (pv 0) (pv 1) (nomark _))))))
        pss_nil)
    (pss_cons (ps_if (pt_val (pe_callB isiV (by rfl) G.n_isinstance (by decide +kernel) (pa_cons (pv 1) (pa_cons (pe_tyN "str" (by rfl) G.n_str (by decide +kernel)) pa_nil))))
        (pss_one (ps_ret (pe_and (pe_callB isiV (by rfl) G.n_isinstance (by decide +kernel) (pa_cons (pv 0) (pa_cons (pe_tyN "str" (by rfl) G.n_str (by decide +kernel)) pa_nil))) (pe_one (pe_cmpR op_eq (pv 0) (pv 1) (nomark _))))))
        pss_nil)
    (Evl.pss_cut (ps_if (PW.pt (pw_and (pt_val (pe_callB isiV (by rfl) G.n_isinstance (by decide +kernel) (pa_cons (pv 1) (pa_cons (pe_tyN "tuple" (by rfl) G.n_tuple (by decide +kernel)) pa_nil)))) (pw_and1 (pt_not (pt_val (pe_callB isiV (by rfl) G.n_isinstance (by decide +kernel) (pa_cons (pv 0) (pa_cons (pe_tyN "tuple" (by rfl) G.n_tuple (by decide +kernel)) pa_nil))))))))
        (pss_one (ps_ret pe_bl))
        pss_nil)
    (Evl.pss_cut (ps_if (PW.pt (pw_and (pt_val (pe_callB isiV (by rfl) G.n_isinstance (by decide +kernel) (pa_cons (pv 1) (pa_cons (pe_tyN "list" (by rfl) G.n_list (by decide +kernel)) pa_nil)))) (pw_and1 (pt_not (pt_val (pe_callB isiV (by rfl) G.n_isinstance (by decide +kernel) (pa_cons (pv 0) (pa_cons (pe_tyN "list" (by rfl) G.n_list (by decide +kernel)) pa_nil))))))))
        (pss_one (ps_ret pe_bl))
        pss_nil)
    (pss_cons (ps_if (pt_cmpR op_ne (pe_callB lenQ (by rfl) G.n_len PySem.boot_len (pa_cons (pv 0) pa_nil)) (pe_callB lenQ (by rfl) G.n_len PySem.boot_len (pa_cons (pv 1) pa_nil)) (nomark _))
        (pss_one (ps_ret pe_bl))
        pss_nil)
    (pss_one (ps_ret (pe_callB allL (by rfl) G.n_all (by decide +kernel) (pa_cons (pe_lc (own := [("_law_at", 2)]) (by rfl) sc__law_equal.nd (pi_range1 (by rfl) G.n_range (pa_cons (pe_callB lenQ (by rfl) G.n_len PySem.boot_len (pa_cons (pv 1) pa_nil)) pa_nil)) (blkOk_by (own := [("_law_at", 2)]) (N := ["_law_actual", "_law_due", "_law_at"]) (sc := defScope s__law_equal) (by decide +kernel)) (fun _ _ _ _ _ => (pg_name (i := 2) sc__law_equal.nd rfl (Or.inl rfl))) (fun _ _ _ _ _ => pts_nil) (fun _ _ _ _ _ => (pe_callD D__law_equal hr pass0 (pa_cons (pe_ix (ixQ (K := K)) (pv 0) (pv 2) (fun _ _ => rfl)) (pa_cons (pe_ix (ixQ (K := K)) (pv 1) (pv 2) (fun _ _ => rfl)) pa_nil))))) pa_nil))))))))))), ?_⟩
      rcases seq_or d with ⟨ds, hseq⟩ | hscal
      · obtain ⟨a, xs, rfl, hxs, hxd⟩ := sq_of_dp hseq hx
        obtain ⟨b, ys, rfl, hys, hyd⟩ := sq_of_dp hseq hy
        obtain ⟨m, rfl, hlen, hok⟩ := okD_seq hseq hd
        have hyn : ys.length = ds.length := DpAll.length hyd
        have hxn : xs.length = ds.length := DpAll.length hxd
        refine ⟨_, rfl, rfl, _, rfl, ite_false' rfl ?_⟩
        refine ⟨_, rfl, _, _, _, _, _, rfl, .ty "bool", tyx_dp hy, kit_all _ (tyN_mem _) _ (by decide), _, rfl, ite_false' (by rcases hseq with rfl | rfl <;> rfl) ?_⟩
        refine ⟨_, rfl, _, _, _, _, _, rfl, .ty "int", tyx_dp hy, kit_all _ (tyN_mem _) _ (by decide), _, rfl, ite_false' (by rcases hseq with rfl | rfl <;> rfl) ?_⟩
        refine ⟨_, rfl, _, _, _, _, _, rfl, .ty "str", tyx_dp hy, kit_all _ (tyN_mem _) _ (by decide), _, rfl, ite_false' (by rcases hseq with rfl | rfl <;> rfl) ?_⟩
        refine ⟨fun σ' H' => σ' = [some (.ref a), some (.ref b), none] ∧ H' = H, ?_, fun σ' H' hM => ?_⟩
        · refine ⟨_, rfl, _, _, _, _, _, rfl, .ty "tuple", tyx_dp hy, kit_all _ (tyN_mem _) _ (by decide), _, rfl, ite2 (fun e => ?_) (fun e => ite_false' rfl ⟨rfl, rfl⟩)⟩
          refine ⟨_, rfl, _, _, _, _, _, rfl, .ty "tuple", tyx_dp hx, kit_all _ (tyN_mem _) _ (by decide), _, rfl, ?_⟩
          rw [e]
          exact ite_false' rfl ⟨rfl, rfl⟩
        obtain ⟨rfl, rfl⟩ := hM
        refine ⟨fun σ' H'' => σ' = [some (.ref a), some (.ref b), none] ∧ H'' = H', ?_, fun σ' H'' hM => ?_⟩
        · refine ⟨_, rfl, _, _, _, _, _, rfl, .ty "list", tyx_dp hy, kit_all _ (tyN_mem _) _ (by decide), _, rfl, ite2 (fun e => ?_) (fun e => ite_false' rfl ⟨rfl, rfl⟩)⟩
          refine ⟨_, rfl, _, _, _, _, _, rfl, .ty "list", tyx_dp hx, kit_all _ (tyN_mem _) _ (by decide), _, rfl, ?_⟩
          rw [e]
          exact ite_false' rfl ⟨rfl, rfl⟩
        obtain ⟨rfl, rfl⟩ := hM
        refine ⟨_, rfl, a, xs, rfl, hxs, _, rfl, b, ys, rfl, hys, rfl, _, rfl, ite_false' ?_ ?_⟩
        · rw [hxn, hyn, decide_eq_true rfl]
          rfl
        refine ⟨_, rfl, b, ys, rfl, hys, _, rfl, by omega, by omega, fun D hD => ?_⟩
        refine lcY_range (fun i H2 => Same H'' H2 ∧ H2 D = some (.lst (List.replicate i (.bl true)))) ⟨same_upd hD, upd_same⟩ (fun i H2 hi hP => ?_) (fun H2 hP => ?_)
        · obtain ⟨s2, eD⟩ := hP
          have hi2 : i < ds.length := by omega
          have e0 : (0 : Int) + (i : Int) = (i : Int) := by omega
          obtain ⟨xv, hxv, dx⟩ := DpAll.get hxd (List.getElem?_eq_getElem hi2)
          obtain ⟨yv, hyv, dy⟩ := DpAll.get hyd (List.getElem?_eq_getElem hi2)
          refine ⟨rfl, ?_⟩
          refine ⟨_, rfl, _, rfl, rIx_of (hxs.mono s2) e0 hxv ⟨_, rfl, _, rfl, rIx_of (hys.mono s2) e0 hyv ?_⟩⟩
          refine ⟨xv, yv, _, rfl, dp_mono s2 dx, dp_mono s2 dy, hok _ (List.getElem_mem hi2), fun H3 s3 => ?_⟩
          refine ⟨_, s3 _ _ eD, ?_, ?_, ?_⟩
          · rw [List.length_replicate]
            exact small_lt (by omega)
          · refine fun c o hc => ?_
            have hcD : c ≠ D := ne_of_none hc hD
            rw [upd_ne hcD]
            exact s3 _ _ (s2 _ _ hc)
          · rw [upd_same, rep_snoc]
        · obtain ⟨s2, eD⟩ := hP
          refine ⟨D, List.replicate _ true, rfl, SqL.of (by rw [eD, rep_map]), ?_⟩
          rw [rep_all]
          exact q H2 s2
      · cases d with
        | none =>
          cases hx; cases hy
          exact ⟨_, rfl, rfl, _, rfl, ite_true' rfl ⟨_, rfl, rfl, q H (Same.refl H)⟩⟩
        | bool b =>
          have ex := hx; have ey := hy
          cases hx; cases hy
          refine ⟨_, rfl, rfl, _, rfl, ite_false' rfl ?_⟩
          refine ⟨_, rfl, _, _, _, _, _, rfl, .ty "bool", tyx_dp ey, kit_all _ (tyN_mem _) _ (by decide), _, rfl, ite_true' rfl ?_⟩
          refine ⟨_, rfl, _, _, _, _, _, rfl, .ty "bool", tyx_dp ex, kit_all _ (tyN_mem _) _ (by decide), _, rfl, ite_true' rfl ?_⟩
          refine ⟨_, rfl, _, rfl, rfl, ?_⟩
          rw [decide_eq_true (rfl : V.bl b = V.bl b)]
          exact q H (Same.refl H)
        | int i =>
          have ex := hx; have ey := hy
          cases hx; cases hy
          refine ⟨_, rfl, rfl, _, rfl, ite_false' rfl ?_⟩
          refine ⟨_, rfl, _, _, _, _, _, rfl, .ty "bool", tyx_dp ey, kit_all _ (tyN_mem _) _ (by decide), _, rfl, ite_false' rfl ?_⟩
          refine ⟨_, rfl, _, _, _, _, _, rfl, .ty "int", tyx_dp ey, kit_all _ (tyN_mem _) _ (by decide), _, rfl, ite_true' rfl ?_⟩
          refine ⟨_, rfl, _, _, rfl, ex, _, rfl, ite_true' rfl ?_⟩
          refine ⟨_, rfl, _, rfl, rfl, ?_⟩
          rw [decide_eq_true (rfl : V.int i = V.int i)]
          exact q H (Same.refl H)
        | str z =>
          have ex := hx; have ey := hy
          cases hx; cases hy
          refine ⟨_, rfl, rfl, _, rfl, ite_false' rfl ?_⟩
          refine ⟨_, rfl, _, _, _, _, _, rfl, .ty "bool", tyx_dp ey, kit_all _ (tyN_mem _) _ (by decide), _, rfl, ite_false' rfl ?_⟩
          refine ⟨_, rfl, _, _, _, _, _, rfl, .ty "int", tyx_dp ey, kit_all _ (tyN_mem _) _ (by decide), _, rfl, ite_false' rfl ?_⟩
          refine ⟨_, rfl, _, _, _, _, _, rfl, .ty "str", tyx_dp ey, kit_all _ (tyN_mem _) _ (by decide), _, rfl, ite_true' rfl ?_⟩
          refine ⟨_, rfl, _, _, _, _, _, rfl, .ty "str", tyx_dp ex, kit_all _ (tyN_mem _) _ (by decide), _, rfl, ite_true' rfl ?_⟩
          refine ⟨_, rfl, _, rfl, rfl, ?_⟩
          rw [decide_eq_true (rfl : V.str z = V.str z)]
          exact q H (Same.refl H)
        | dict _ => cases n <;> exact hd.elim
        | list ds => exact absurd rfl (hscal ds).1
        | tuple ds => exact absurd rfl (hscal ds).2
end
end Sure

namespace Sure
open PySem PySem.Spec PyProof.Rows L2
section
variable {P : Program} {w : World} {K : PySem.W.Frag} {mg : Str → Option Value} {base : Heap}
/-! ### TextError -/
abbrev s_TextError_init : Stmt := inClass (topS 2) 0
theorem sc_TextError_init : FnScope ["self", "line", "column", "words"] ["self", "line", "column", "words"] (defScope s_TextError_init) := ⟨rfl, rfl, rfl, by decide +kernel, rfl, by decide +kernel, by decide +kernel⟩
/-- the class at C, its __init__ at fI -/
structure TeC (K : PySem.W.Frag) (mg : Str → Option Value) (C fI : Addr) : Prop where
  g : mg "TextError" = some (.ref C)
  o : OexC K C
  i : PySem.W.findIn K (.ref C) "__init__" = some (some (.ref fI))
  ti : PySem.W.typeIn K (.ref fI) = some (.type "function")
  n1 : PySem.W.findIn K (.ref C) "line" = some none
  n2 : PySem.W.findIn K (.ref C) "column" = some none
  n3 : PySem.W.findIn K (.ref C) "words" = some none
  xf : XfC K C
  exm : PySem.W.exmOne K (.ref C) (.ref C) = some true
def teF (x y z : V) : List (Str × V) := [("words", z), ("column", y), ("line", x)]
def sp_te (C : Addr) : Sp := fun vs H Q _ => ∃ (a : Addr) (x y z : V), vs = [.ref a, x, y, z] ∧ H a = some (exo a C none) ∧
  ∀ dx H', H dx = none → dx ≠ a → H' a = some (exo a C (some dx)) → H' dx = some (exd dx (teF x y z)) → (∀ b, b ≠ a → b ≠ dx → H' b = H b) → Q .non H'
theorem ok_te {C fI : Addr} {fd : FuncData} (F : Fun K "__init__" "TextError.__init__" s_TextError_init fI fd) (T : TeC K mg C fI) : FnOk P w K mg base CX0 1 fI fd ["self", "line", "column", "words"] (sp_te C) := by
  refine F.ok sc_TextError_init (fun vs H Q E h => ?_) (fun cdv A outer s H vs Q E hr h => ?_)
  · obtain ⟨_, _, _, _, rfl, _⟩ := h
    rfl
  · obtain ⟨a, x, y, z, rfl, ha, q⟩ := h
    refine ⟨_, pss_cons (ps_ost (pv 0) (pv 1)) (pss_cons (ps_ost (pv 0) (pv 2)) (pss_one (ps_ost (pv 0) (pv 3)))), ?_⟩
    refine ⟨_, rfl, _, rfl, a, C, rfl, T.o, T.n1, .inl ⟨ha, fun dx ndx hdx => ?_⟩⟩
    refine ⟨_, rfl, _, rfl, a, C, rfl, T.o, T.n2, .inr ⟨dx, [("line", x)], upd_same, ?_, (show 1 ≤ 900 by decide), ?_⟩⟩
    · rw [upd_ne hdx, upd_same]
    refine ⟨_, rfl, _, rfl, a, C, rfl, T.o, T.n3, .inr ⟨dx, [("column", y), ("line", x)], ?_, upd_same, (show 2 ≤ 900 by decide), ?_⟩⟩
    · rw [upd_ne (Ne.symm hdx), upd_same]
    refine q dx _ ndx hdx ?_ upd_same fun b hb hb2 => ?_
    · rw [upd_ne (Ne.symm hdx), upd_ne (Ne.symm hdx), upd_same]
    · rw [upd_ne hb2, upd_ne hb2, upd_ne hb, upd_ne hb2]
/-- TextError(x, y, z) -/
def tTe (C : Addr) (ta : TA) : L2.St → Hp → XK → Prop := fun σ H Q => ta σ H fun vs H1 => ∃ x y z : V, vs = [x, y, z] ∧ ∀ d H', H1 d = none → Same H1 H' → H' d = some (.xd (teF x y z)) → Q (.ref C) (some d) H'
theorem pmk_te {X : Cx} {C fI : Addr} {fd : FuncData} {e : Expr} {es : List Expr} {p pos : Pos} {ta : TA} (T : TeC X.K X.mg C fI) (F : FnOk X.prog X.w X.K X.mg X.base CX0 1 fI fd ["self", "line", "column", "words"] (sp_te C))
    (hb : Binds X.K fd ["self", "line", "column", "words"] []) (hr : Room 2 X.A) (hg : Gl X "TextError") (ha : PA X (e :: es) ta)
    (he : starEach (e :: es) X.env = (false, eval e X.env) :: starEach es X.env := by rfl) (hpl : (backTo pos (starEach es X.env)).any (·.1) = false := by rfl) : L2N.PMk X (.Call (.Name "TextError" p) (e :: es) [] pos) (tTe C (upA ta)) := by
  intro pins s σ H Q I h
  refine pmkN_oex (sp := sp_te C) T.o T.i T.ti F hr hb pass0 hg T.g (pa_up ha) (by decide) he hpl pins s σ H Q I ?_
  obtain ⟨R, h1, h2⟩ := h
  refine ⟨R, h1, fun vs H1 hR => ?_⟩
  obtain ⟨x, y, z, rfl, q⟩ := h2 vs H1 hR
  refine ⟨(show 3 ≤ 1000 by decide), fun a na => ⟨a, x, y, z, rfl, upd_same, fun dx H' ndx hdx ha' hd' hk => ⟨rfl, dx, _, ha', hd', ?_, ?_⟩⟩⟩
  · rw [upd_ne hdx] at ndx
    exact ndx
  · have nd : H1 dx = none := by rw [upd_ne hdx] at ndx; exact ndx
    refine q dx _ nd (fun b o hbo => ?_) upd_same
    have nb1 : b ≠ dx := ne_of_none hbo nd
    have nb2 : b ≠ a := ne_of_none hbo na
    rw [upd_ne nb1, del_ne nb2, hk b nb2 nb1, upd_ne nb2]
    exact hbo
end
end Sure

namespace Sure
open PySem PySem.Spec PyProof.Rows L2
/-! ### scan -/
theorem blanks_is : (" \n\t" : Str) = S blL := by decide +kernel
theorem words_is : ("abcdefghijklmnopqrstuvwxyzABCDEFGHIJKLMNOPQRSTUVWXYZ0123456789_?-+*<>=" : Str) = S wdL := by decide +kernel
theorem dls_is : ("();" : Str) = S dlL := by decide +kernel
theorem pas_is : ("()" : Str) = S paL := by decide +kernel
theorem semi_is : (";" : Str) = S [59] := by decide +kernel
theorem nl_is : ("\n" : Str) = S [10] := by decide +kernel
theorem empty_is : ("" : Str) = S [] := by decide +kernel
def tokO (t : List Nat × Int × Int) : HO := .tup [.str (S t.1), .int t.2.1, .int t.2.2]
/-- the tokens stand at these addresses -/
def Toks (H : Hp) (as : List Addr) (ts : List (List Nat × Int × Int)) : Prop := Paired (fun a t => H a = some (tokO t)) as ts
theorem paired_snoc {α β : Type} {R : α → β → Prop} : ∀ {xs : List α} {ys : List β} {x : α} {y : β}, Paired R xs ys → R x y → Paired R (xs ++ [x]) (ys ++ [y])
  | _, _, _, _, .nil, r => .cons r .nil
  | _, _, _, _, .cons a b, r => .cons a (paired_snoc b r)
theorem Toks.mono {H H' : Hp} : ∀ {as : List Addr} {ts : List (List Nat × Int × Int)}, (∀ a xs, H a = some (.tup xs) → H' a = some (.tup xs)) → Toks H as ts → Toks H' as ts
  | _, _, _, .nil => .nil
  | _, _, k, .cons a b => .cons (k _ _ a) (Toks.mono k b)
/-- the found list at p, its tokens; all else of H₀ as it was -/
structure Fnd (H₀ H : Hp) (p : Addr) (ts : List (List Nat × Int × Int)) : Prop where
  free : H₀ p = none
  same : Same H₀ H
  lst : ∃ as : List Addr, H p = some (.lst (as.map V.ref)) ∧ Toks H as ts
theorem Fnd.add {H₀ H : Hp} {p t : Addr} {ts : List (List Nat × Int × Int)} {k : List Nat × Int × Int} {as : List Addr} (f : H₀ p = none) (sm : Same H₀ H) (hl : H p = some (.lst (as.map V.ref))) (hk : Toks H as ts) (nt : H t = none) :
    Fnd H₀ (upd (upd H t (tokO k)) p (.lst (as.map V.ref ++ [.ref t]))) p (ts ++ [k]) := by
  have ntp : t ≠ p := fun e => by rw [e, hl] at nt; cases nt
  refine ⟨f, fun b o hb => ?_, as ++ [t], ?_, ?_⟩
  · have h1 : b ≠ p := ne_of_none hb f
    have h2 : b ≠ t := ne_of_none (sm _ _ hb) nt
    rw [upd_ne h1, upd_ne h2]
    exact sm _ _ hb
  · rw [upd_same, List.map_append]
    rfl
  · refine paired_snoc (Toks.mono (fun a xs ha => ?_) hk) ?_
    · have h1 : a ≠ p := ne_of ha hl (by intro z; cases z)
      have h2 : a ≠ t := ne_of_none ha nt
      rw [upd_ne h1, upd_ne h2]
      exact ha
    · show upd (upd H t (tokO k)) p _ t = _
      rw [upd_ne ntp, upd_same]
/-- sstep without the place -/
def sbase (s : Sc) (c : Nat) : Option Sc :=
  if (s.com || (bl c || dl c)) = true then some { s with found := put s c, word := [], com := (s.com || c == 59) && c != 10 }
  else if wc c = true then some { s with word := s.word ++ [c] }
  else none
theorem sstep_base {s t : Sc} {c : Nat} (h : sbase s c = some t) : sstep s c = some (nxt c t) := by
  unfold sbase at h
  unfold sstep
  split at h
  · rename_i h1; rw [if_pos h1]; cases h; rfl
  · rename_i h1
    rw [if_neg h1]
    split at h
    · rename_i h2; rw [if_pos h2]; cases h; rfl
    · cases h
def stSc (z : List Nat) (p : Addr) (s : Sc) (ch : Option V) : L2.St := [some (.str (S z)), some (.ref p), some (.int s.line), some (.int s.col), some (.str (S s.word)), some (.bl s.com), ch]
theorem sign_eq (c d : Nat) : decide (V.str (S [c]) = V.str (S [d])) = (c == d) := by
  by_cases h : c = d
  · rw [h]; simp
  · rw [decide_eq_false (fun e => h (by have e2 := S_inj (V.str.inj e); simpa using e2))]
    simp [h]
def tokD (t : List Nat × Int × Int) : PyData := .tuple [.str (S t.1), .int t.2.1, .int t.2.2]
theorem toks_dp {K : PySem.W.Frag} {H : Hp} : ∀ {as : List Addr} {ts : List (List Nat × Int × Int)}, Toks H as ts → DpAll K H (as.map V.ref) (ts.map tokD)
  | _, _, .nil => .nil
  | _, _, .cons a b => .cons (.tup (.inl (.inl a)) (.cons (.str _) (.cons (.int _) (.cons (.int _) .nil)))) (toks_dp b)
section
variable {P : Program} {w : World} {K : PySem.W.Frag} {mg : Str → Option Value} {base : Heap} {C : Addr}
def noSuch : Str := "no such character"
def sp_scan (K : PySem.W.Frag) (C : Addr) : Sp := fun vs H Q E => ∃ z : List Nat, vs = [.str (S z)] ∧ z.length ≤ 100000 ∧
  (∀ t, srun sc0 (z ++ [10]) = .inr t → ∀ H' p, Same H H' → Dp K H' (.ref p) (.list (t.found.map tokD)) → Q (.ref p) H') ∧
  (∀ l c, srun sc0 (z ++ [10]) = .inl (l, c) → ∀ d H', Same H H' → H' d = some (.xd (teF (.int l) (.int c) (.str noSuch))) → E (.ref C) (some d) H')
theorem pe_gstr {X : Cx} {x : Str} {z : Str} {pos : Pos} (h : ∃ t, X.mg x = some (.str z t)) (hg : Gl X x) (hd : (x == ("__debug__" : Str)) = false := by decide) : PE X (.Name x pos) (tC (.str z)) := by
  obtain ⟨t, h⟩ := h
  exact pe_glob hg h ⟨t, rfl⟩ hd
theorem ok_scan {f fI : Addr} {fd fdI : FuncData} (F : Fun K "scan" "scan" s_scan f fd) (G : GF K mg) (T : TeC K mg C fI) (FI : FnOk P w K mg base CX0 1 fI fdI ["self", "line", "column", "words"] (sp_te C)) (bI : Binds K fdI ["self", "line", "column", "words"] []) :
    FnOk P w K mg base (L2N.CX P w) 3 f fd ["text"] (sp_scan K C) := by
  refine okXN F sc_scan (fun vs H Q E h => ?_) (fun cdv A outer s H vs Q E hr h => ?_)
  · obtain ⟨_, rfl, _⟩ := h
    rfl
  · obtain ⟨z, rfl, hz, q, qe⟩ := h
    refine ⟨_, (pss_cons (ps_set (i := 1) sc_scan.nd rfl (Or.inl rfl) (pe_lst pa_nil))
    (pss_cons (ps_set (i := 2) sc_scan.nd rfl (Or.inl rfl) pe_int)
    (pss_cons (ps_set (i := 3) sc_scan.nd rfl (Or.inl rfl) pe_int)
    (pss_cons (ps_set (i := 4) sc_scan.nd rfl (Or.inl rfl) pe_str)
    (pss_cons (ps_set (i := 5) sc_scan.nd rfl (Or.inl rfl) pe_bl)
    (pss_cons (ps_for (passes_of rfl) rfl (pi_str (pe_op op_add_str (pv 0) pe_str)) (pg_name (i := 6) sc_scan.nd rfl (Or.inl rfl))
        (Evl.pss_cut (ps_if (pt_up (PW.pt (pw_or (pt_val (pv 5)) (pw_or (pt_cmpR op_in_sign (pv 6) (pe_gstr G.c_BLANKS rfl) (by rfl)) (pw_or1 (pt_cmpR op_in_sign (pv 6) pe_str (by rfl)))))))
            (Evl.pss_cut (ps_if (pt_cmpR op_gt (pe_callB call_len_str (by rfl) G.n_len PySem.boot_len (pa_cons (pv 4) pa_nil)) pe_int (nomark _))
                (pss_cons (ps_expr (pe_bm PySem.F.plainAttrs_list PySem.F.slot_list_append PySem.F.type_list_append mt_append (pv 1) (pa_cons (pe_tup (pa_cons (pv 4) (pa_cons (pv 2) (pa_cons (pe_op op_sub (pv 3) (pe_callB call_len_str (by rfl) G.n_len PySem.boot_len (pa_cons (pv 4) pa_nil))) pa_nil)))) pa_nil)))
                (pss_one (ps_set (i := 4) sc_scan.nd rfl (Or.inl rfl) pe_str)))
                pss_nil)
            (Evl.pss_cut (ps_if (pt_up (PW.pt (pw_and (pt_not (pt_val (pv 5))) (pw_and1 (pt_cmpR op_in_sign (pv 6) pe_str (by rfl))))))
                (pss_one (ps_expr (pe_bm PySem.F.plainAttrs_list PySem.F.slot_list_append PySem.F.type_list_append mt_append (pv 1) (pa_cons (pe_tup (pa_cons (pv 6) (pa_cons (pv 2) (pa_cons (pv 3) pa_nil)))) pa_nil))))
                pss_nil)
            (pss_one (ps_set (i := 5) sc_scan.nd rfl (Or.inl rfl) (pe_up (pe_and (pe_or (pv 5) (pe_one (pe_cmpR op_eq (pv 6) pe_str (nomark _)))) (pe_one (pe_cmpR op_ne (pv 6) pe_str (nomark _)))))))))
            (pss_one (ps_if (pt_cmpR op_in_sign (pv 6) (pe_gstr G.c_WORDS rfl) (by rfl))
                (pss_one (ps_set (i := 4) sc_scan.nd rfl (Or.inl rfl) (pe_op op_add_str (pv 4) (pv 6))))
                (pss_one (L2N.ps_raise rfl (L2N.takes_of rfl rfl rfl rfl) (pmk_te T FI bI hr rfl (pa_cons (pv 2) (pa_cons (pv 3) (pa_cons pe_str pa_nil)))))))))
        (pss_cons (ps_set (i := 3) sc_scan.nd rfl (Or.inl rfl) (pe_op op_add (pv 3) pe_int))
        (pss_one (ps_if (pt_cmpR op_eq (pv 6) pe_str (nomark _))
            (pss_cons (ps_set (i := 2) sc_scan.nd rfl (Or.inl rfl) (pe_op op_add (pv 2) pe_int))
            (pss_one (ps_set (i := 3) sc_scan.nd rfl (Or.inl rfl) pe_int)))
            pss_nil)))))
    (pss_one (ps_ret (pv 1))))))))), ?_⟩
    refine ⟨Nat.zero_le _, fun p np => ?_⟩
    have hfull : (z ++ [10]).length ≤ 100001 := by simp; omega
    refine ⟨_, rfl, _, _, rfl, rfl, small_le (by rw [S_len]; show z.length + 1 ≤ _; omega), S (z ++ [10]), ?_, ?_⟩
    · rw [nl_is, S_app]
    refine for_str (l := z ++ [10]) (fun i σ H' => ∃ (st : Sc) (ch : Option V), σ = stSc z p st ch ∧ srun sc0 (z ++ [10]) = srun st ((z ++ [10]).drop i) ∧ Fnd H H' p st.found ∧ st.word.length ≤ i ∧ st.found.length ≤ 2 * i)
      ⟨sc0, none, ?_, by simp, ⟨np, same_upd np, [], by rw [upd_same]; rfl, .nil⟩, Nat.le_refl _, Nat.le_refl _⟩ (fun i c σ H' hc hP => ?_) (fun σ H' hP => ?_)
    · show _ = [_, _, _, _, _, _, _]
      rw [show sc0.word = [] from rfl, ← empty_is]
      rfl
    · obtain ⟨st, ch, rfl, hrun, hf, hw, hn⟩ := hP
      have hi : i < (z ++ [10]).length := (List.getElem?_eq_some_iff.mp hc).1
      have hdrop : (z ++ [10]).drop i = c :: (z ++ [10]).drop (i + 1) := by
        rw [List.drop_eq_getElem_cons hi, (List.getElem?_eq_some_iff.mp hc).2]
      rw [hdrop] at hrun
      -- behind the branches: sbase
      refine ⟨fun σ' H'' => ∃ t : Sc, sbase st c = some t ∧ σ' = stSc z p t (some (.str (S [c]))) ∧ Fnd H H'' p t.found ∧ t.word.length ≤ i + 1 ∧ t.found.length ≤ 2 * i + 2, ?_, fun σ' H'' hM => ?_⟩
      · -- the test
        refine ⟨fun b H2 => b = (st.com || (bl c || dl c)) ∧ H2 = H', ?_, fun b H2 hR => ?_⟩
        · refine ⟨_, rfl, _, rfl, ite2 (fun e => ⟨by rw [e]; rfl, rfl⟩) (fun e => ?_)⟩
          have ec : st.com = false := by simpa using e
          refine ⟨_, rfl, c, S blL, rfl, congrArg V.str blanks_is, _, rfl, ite2 (fun e2 => ⟨?_, rfl⟩) (fun e2 => ?_)⟩
          · have eb : bl c = true := e2
            rw [eb]; simp
          · have eb : bl c = false := by simpa [bl] using e2
            refine ⟨_, rfl, c, S dlL, rfl, congrArg V.str dls_is, _, rfl, ?_, rfl⟩
            rw [ec, eb]; rfl
        obtain ⟨rfl, rfl⟩ := hR
        refine ite2 (fun hy => ?_) (fun hno => ?_)
        · -- a sign that ends words
          refine ⟨fun σ' H'' => σ' = stSc z p { st with found := flushed st, word := [] } (some (.str (S [c]))) ∧ Fnd H H'' p (flushed st) ∧ (flushed st).length ≤ 2 * i + 1, ?_, fun σ' H'' hM => ?_⟩
          · refine ⟨_, rfl, S st.word, rfl, small_le (by rw [S_len]; omega), _, _, rfl, rfl, _, rfl, ite2 (fun e => ?_) (fun e => ?_)⟩
            · have hne : st.word ≠ [] := fun z => by
                have e2 := of_decide_eq_true e
                rw [S_len, z] at e2
                simp at e2
              obtain ⟨hfree, hsame, as, hl, htk⟩ := hf
              refine ⟨.ref p, rfl, .inl ⟨rfl, _, SqL.of hl⟩, _, rfl, _, rfl, _, rfl, _, rfl, S st.word, rfl, small_le (by rw [S_len]; omega), _, _, rfl, rfl, (show 3 ≤ sizeLine by decide), fun t nt => ?_⟩
              have ntp : p ≠ t := fun e => by rw [← e, hl] at nt; cases nt
              refine ⟨p, as.map V.ref, _, rfl, rfl, ?_, ?_, ?_⟩
              · rw [upd_ne ntp]; exact hl
              · rw [List.length_map]
                have := Paired.length htk
                exact small_lt (by omega)
              · have hfl : flushed st = st.found ++ [(st.word, st.line, st.col - (st.word.length : Int))] := if_neg hne
                refine ⟨?_, ?_, ?_⟩
                · show _ = [_, _, _, _, _, _, _]
                  rw [show S ({ st with found := flushed st, word := [] } : Sc).word = S [] from rfl, ← empty_is]
                  rfl
                · rw [hfl]
                  have := Fnd.add (k := (st.word, st.line, st.col - (st.word.length : Int))) hfree hsame hl htk nt
                  rw [S_len]
                  exact this
                · rw [hfl]; simp; omega
            · have hem : st.word = [] := by
                have e2 : ¬ (0 : Int) < ((S st.word).length : Int) := fun z => e (decide_eq_true z)
                rw [S_len] at e2
                cases hq : st.word with
                | nil => rfl
                | cons a b => rw [hq] at e2; simp at e2
              have hfl : flushed st = st.found := if_pos hem
              refine ⟨?_, by rw [hfl]; exact hf, by rw [hfl]; omega⟩
              rw [hfl]
              show stSc z p st _ = _
              unfold stSc
              rw [hem]
          · obtain ⟨rfl, hf2, hn2⟩ := hM
            refine ⟨fun σ' H3 => σ' = stSc z p { st with found := put st c, word := [] } (some (.str (S [c]))) ∧ Fnd H H3 p (put st c) ∧ (put st c).length ≤ 2 * i + 2, ?_, fun σ' H3 hM => ?_⟩
            · refine ⟨fun b H4 => b = (!st.com && pa c) ∧ H4 = H'', ?_, fun b H4 hR => ?_⟩
              · refine ⟨_, rfl, _, rfl, ite2 (fun e => ?_) (fun e => ⟨?_, rfl⟩)⟩
                · refine ⟨_, rfl, c, S paL, rfl, congrArg V.str pas_is, _, rfl, ?_, rfl⟩
                  have e2 : (!st.com) = true := e
                  rw [e2, Bool.true_and]
                  rfl
                · have e2 : (!st.com) = false := by simpa using e
                  rw [e2]; rfl
              obtain ⟨rfl, rfl⟩ := hR
              refine ite2 (fun e => ?_) (fun e => ?_)
              · obtain ⟨hfree, hsame, as, hl, htk⟩ := hf2
                refine ⟨.ref p, rfl, .inl ⟨rfl, _, SqL.of hl⟩, _, rfl, _, rfl, _, rfl, (show 3 ≤ sizeLine by decide), fun t nt => ?_⟩
                have ntp : p ≠ t := fun e => by rw [← e, hl] at nt; cases nt
                refine ⟨p, as.map V.ref, _, rfl, rfl, ?_, ?_, ?_⟩
                · rw [upd_ne ntp]; exact hl
                · rw [List.length_map]
                  have := Paired.length htk
                  exact small_lt (by omega)
                · have hpt : put st c = flushed st ++ [([c], st.line, st.col)] := if_pos e
                  refine ⟨?_, ?_, ?_⟩
                  · rw [hpt]; rfl
                  · rw [hpt]
                    exact Fnd.add (k := ([c], st.line, st.col)) hfree hsame hl htk nt
                  · rw [hpt]; simp; omega
              · have hpt : put st c = flushed st := if_neg e
                rw [hpt]
                exact ⟨rfl, hf2, by omega⟩
            · obtain ⟨rfl, hf3, hn3⟩ := hM
              refine ⟨fun v H4 => v = .bl ((st.com || c == 59) && c != 10) ∧ H4 = H3, ?_, fun v H4 hR => ?_⟩
              · have two : ∀ b : Bool, b = (st.com || c == 59) → (∃ cc, V.bl b = .bl cc ∧ if cc = true then (tOp rNe (tVar 6) (tC (.str "\n"))) (stSc z p { st with found := put st c, word := [] } (some (.str (S [c])))) H3 (fun v H4 => v = .bl ((st.com || c == 59) && c != 10) ∧ H4 = H3) else (V.bl false = .bl ((st.com || c == 59) && c != 10) ∧ H3 = H3)) := fun b hb => by
                  refine ⟨b, rfl, ite2 (fun e => ?_) (fun e => ?_)⟩
                  · refine ⟨_, rfl, rfl, ?_, rfl⟩
                    rw [← hb, e, Bool.true_and]
                    have := sign_eq c 10
                    rw [← nl_is] at this
                    rw [this]
                    rfl
                  · have e2 : b = false := by simpa using e
                    rw [← hb, e2]
                    exact ⟨rfl, rfl⟩
                refine ⟨_, rfl, _, rfl, ite2 (fun e => ?_) (fun e => ?_)⟩
                · have e1 : st.com = true := e
                  exact two true (by rw [e1]; rfl)
                · have e1 : st.com = false := by simpa using e
                  refine ⟨_, rfl, rfl, ?_⟩
                  refine two _ ?_
                  have := sign_eq c 59
                  rw [← semi_is] at this
                  rw [this, e1]
                  rfl
              obtain ⟨rfl, rfl⟩ := hR
              refine ⟨{ st with found := put st c, word := [], com := (st.com || c == 59) && c != 10 }, if_pos hy, rfl, hf3, by simp, hn3⟩
        · -- a sign of a word, or none
          refine ⟨_, rfl, c, S wdL, rfl, congrArg V.str words_is, _, rfl, ite2 (fun e => ?_) (fun e => ?_)⟩
          · have ew : wc c = true := e
            refine ⟨_, rfl, _, rfl, S st.word, S [c], rfl, rfl, small_le (by rw [S_len, S_len]; simp; omega), ?_⟩
            refine ⟨{ st with word := st.word ++ [c] }, ?_, ?_, hf, by simp; omega, by show st.found.length ≤ _; omega⟩
            · unfold sbase
              rw [if_neg hno, if_pos ew]
            · rw [S_app]; rfl
          · have ew : wc c = false := by simpa [wc] using e
            refine ⟨fun vs H1 => vs = [.int st.line, .int st.col, .str noSuch] ∧ H1 = H2, ⟨_, rfl, _, rfl, rfl, rfl⟩, fun vs H1 hR => ?_⟩
            obtain ⟨rfl, rfl⟩ := hR
            refine ⟨_, _, _, rfl, fun d H4 nd sm hd => qe st.line st.col ?_ d H4 (hf.same.trans sm) hd⟩
            rw [hrun]
            show (match sstep st c with
              | none => Sum.inl (st.line, st.col)
              | some t => srun t _) = _
            have hs : sstep st c = none := by
              unfold sstep
              rw [if_neg hno, if_neg (by rw [ew]; decide)]
            rw [hs]
      · -- the place
        obtain ⟨t, ht, rfl, hf2, hw2, hn2⟩ := hM
        refine ⟨_, rfl, _, _, rfl, rfl, ?_⟩
        refine ⟨_, rfl, rfl, _, rfl, ?_⟩
        have hr2 : srun sc0 (z ++ [10]) = srun (nxt c t) ((z ++ [10]).drop (i + 1)) := by
          rw [hrun, srun_cons (sstep_base ht)]
        have hsg := sign_eq c 10
        rw [← nl_is] at hsg
        rw [hsg]
        refine ite2 (fun e => ?_) (fun e => ?_)
        · have ec : c = 10 := by simpa using e
          have en : nxt c t = { t with line := t.line + 1, col := 1 } := if_pos ec
          rw [en] at hr2
          refine ⟨_, rfl, _, _, rfl, rfl, ?_⟩
          exact ⟨{ t with line := t.line + 1, col := 1 }, _, rfl, hr2, hf2, hw2, by show t.found.length ≤ _; omega⟩
        · have ec : ¬ c = 10 := by simpa using e
          have en : nxt c t = { t with col := t.col + 1 } := if_neg ec
          rw [en] at hr2
          exact ⟨{ t with col := t.col + 1 }, _, rfl, hr2, hf2, hw2, by show t.found.length ≤ _; omega⟩
    · obtain ⟨st, ch, rfl, hrun, hf, _, _⟩ := hP
      rw [List.drop_length] at hrun
      obtain ⟨_, hsame, as, hl, htk⟩ := hf
      exact ⟨.ref p, rfl, q st hrun H' p hsame (.lst (.inl (.inl hl)) (toks_dp htk))⟩
end
end Sure

namespace Sure
open PySem PySem.Spec PyProof.Rows L2
section
variable {P : Program} {w : World} {K : PySem.W.Frag} {mg : Str → Option Value} {base : Heap}
/-! ### end_of -/
def sp_end (K : PySem.W.Frag) : Sp := fun vs H Q _ => ∃ z : List Nat, vs = [.str (S z)] ∧ z.length ≤ 100000 ∧ ∀ p, H p = none → Q (.ref p) (upd H p (.tup [.int (lineOf z), .int (colOf z)]))
theorem ok_end {f : Addr} {fd : FuncData} (F : Fun K "end_of" "end_of" s_end_of f fd) (G : GF K mg) : FnOk P w K mg base CX0 1 f fd ["text"] (sp_end K) := by
  refine F.ok sc_end_of (fun vs H Q E h => ?_) (fun cdv A outer s H vs Q E hr h => ?_)
  · obtain ⟨_, rfl, _⟩ := h
    rfl
  · obtain ⟨z, rfl, hz, q⟩ := h
    refine ⟨_, (pss_one (ps_ret (pe_tup (pa_cons (pe_op op_add pe_int (pe_m1 PySem.F.slot_str_count PySem.F.type_str_count mt_count (pv 0) pe_str)) (pa_cons (pe_op op_sub (pe_callB call_len_str (by rfl) G.n_len PySem.boot_len (pa_cons (pv 0) pa_nil)) (pe_m1 PySem.F.slot_str_rfind PySem.F.type_str_rfind mt_rfind (pv 0) pe_str)) pa_nil))))), ?_⟩
    refine ⟨_, rfl, ⟨_, rfl⟩, S z, S [10], rfl, congrArg (fun x => [V.str x]) nl_is, _, _, rfl, rfl, ?_⟩
    refine ⟨_, rfl, S z, rfl, small_le (by rw [S_len]; omega), _, rfl, ⟨_, rfl⟩, S z, S [10], rfl, congrArg (fun x => [V.str x]) nl_is, _, _, rfl, rfl, (show 2 ≤ sizeLine by decide), fun p np => ?_⟩
    have h1 := place_line (S z)
    have h2 := place_col (S z)
    rw [tl_S] at h1 h2
    have hq := q p np
    rw [← h1, ← h2] at hq
    exact hq
/-! ### gaps -/
def gapsL : List (List Nat) := [[], [32], [10], [9], [32, 32], [10, 10, 32], [32, 59, 32, 97, 32, 40, 114, 101, 109, 97, 114, 107, 41, 32, 33, 32, 126, 32, 59, 10], [59, 10], [32, 59, 41, 10, 9]]
theorem gaps_okg : ∀ g ∈ gapsL, okg g := by
  have : ∀ g ∈ gapsL, cm false g = some false := by decide +kernel
  exact this
theorem gaps_len : ∀ g ∈ gapsL, g.length ≤ 20 := by decide +kernel
theorem gaps_ne : ∀ g ∈ gapsL.tail, g ≠ [] := by decide +kernel
theorem gaps_are : ([.str "", .str " ", .str "\n", .str "\t", .str "  ", .str "\n\n ", .str " ; a (remark) ! ~ ;\n", .str ";\n", .str " ;)\n\t"] : List V) = gapsL.map fun g => V.str (S g) := by decide +kernel
def sp_gap (K : PySem.W.Frag) : Sp := fun vs H Q _ => ∃ (a l : Addr) (ns : List Int) (b : Bool), vs = [.ref a, .bl b] ∧ Stm H a l ns ∧ ∀ H' g, SameBut a H H' → Stm H' a l ns → g ∈ gapsL → (b = false → g ≠ []) → Q (.str (S g)) H'
theorem ok_gap {f : Addr} {fd : FuncData} (F : Fun K "_law_gap" "_law_gap" s__law_gap f fd) (G : GF K mg) (D__law_next : DefOk P w K mg base CX0 1 "_law_next" ["_law_stream_here", "_law_many"] (sp_next K)) : FnOk P w K mg base CX0 2 f fd ["_law_stream_here", "_law_tight"] (sp_gap K) := by
  refine F.ok sc__law_gap (fun vs H Q E h => ?_) (fun cdv A outer s H vs Q E hr h => ?_)
  · obtain ⟨_, _, _, _, rfl, _⟩ := h
    rfl
  · obtain ⟨a, l, ns, b, rfl, hS, q⟩ := h
    refine ⟨_, (pss_cons (ps_set (i := 2) sc__law_gap.nd rfl (Or.inl rfl) (pe_lst (pa_cons pe_str (pa_cons pe_str (pa_cons pe_str (pa_cons pe_str (pa_cons pe_str (pa_cons pe_str (pa_cons pe_str (pa_cons pe_str (pa_cons pe_str pa_nil)))))))))))
    (pss_cons (ps_if (pt_val (pv 1))
        (pss_one (ps_ret (pe_ix (ixL (K := K)) (pv 2) (pe_callD D__law_next hr pass0 (pa_cons (pv 0) (pa_cons pe_int pa_nil))) (fun _ _ => rfl))))
        pss_nil)
    (pss_one (ps_ret (pe_ix (ixL (K := K)) (pv 2) (pe_op op_add pe_int (pe_callD D__law_next hr pass0 (pa_cons (pv 0) (pa_cons pe_int pa_nil)))) (fun _ _ => rfl)))))), ?_⟩
    refine ⟨(show 9 ≤ sizeLine by decide), fun p np => ?_⟩
    have hpa : p ≠ a := (hS.ne np).1
    have s1 : Same H (upd H p (.lst [.str "", .str " ", .str "\n", .str "\t", .str "  ", .str "\n\n ", .str " ; a (remark) ! ~ ;\n", .str ";\n", .str " ;)\n\t"])) := same_upd np
    have hS1 : Stm (upd H p (.lst [.str "", .str " ", .str "\n", .str "\t", .str "  ", .str "\n\n ", .str " ; a (remark) ! ~ ;\n", .str ";\n", .str " ;)\n\t"])) a l ns := Stm.mono s1 hS
    refine ⟨_, rfl, _, rfl, ite2 (fun e => ?_) (fun e => ?_)⟩
    · refine ⟨_, rfl, _, rfl, a, l, ns, 9, rfl, hS1, by decide, by decide, fun H' d sb hS' d0 d1 => ?_⟩
      obtain ⟨j, rfl⟩ := Int.eq_ofNat_of_zero_le d0
      have hj : j < gapsL.length := by show j < 9; omega
      refine rIxL_of (SqL.of (sb p _ hpa upd_same)) rfl (v := .str (S gapsL[j])) ?_ ?_
      · rw [gaps_are, List.getElem?_map, List.getElem?_eq_getElem hj]
        rfl
      · refine q H' _ (fun b o hb ho => sb b o hb (s1 _ _ ho)) hS' (List.getElem_mem hj) (fun hb => ?_)
        rw [hb] at e
        cases e
    · refine ⟨_, rfl, _, rfl, a, l, ns, 8, rfl, hS1, by decide, by decide, fun H' d sb hS' d0 d1 => ?_⟩
      obtain ⟨j, rfl⟩ := Int.eq_ofNat_of_zero_le d0
      have hj : j + 1 < gapsL.length := by show j + 1 < 9; omega
      refine ⟨1, (j : Int), rfl, rfl, ?_⟩
      refine rIxL_of (SqL.of (sb p _ hpa upd_same)) (j := j + 1) (by omega) (v := .str (S gapsL[j + 1])) ?_ ?_
      · rw [gaps_are, List.getElem?_map, List.getElem?_eq_getElem hj]
        rfl
      · refine q H' _ (fun b o hb ho => sb b o hb (s1 _ _ ho)) hS' (List.getElem_mem hj) (fun _ => gaps_ne _ ?_)
        have : gapsL[j + 1] = gapsL.tail[j]'(by show j < 8; omega) := by simp
        rw [this]
        exact List.getElem_mem _
end
end Sure

namespace Sure
open PySem PySem.Spec PyProof.Rows L2
theorem joinL_nil : ∀ ls : List (List Nat), TL.joinL [] ls = ls.flatten
  | [] => rfl
  | [x] => by simp [TL.joinL]
  | x :: y :: r => by
    have ih := joinL_nil (y :: r)
    show x ++ ([] ++ TL.joinL [] (y :: r)) = _
    rw [ih]
    simp
theorem signs_sum (cs : List Nat) (h : cs.length ≤ 1000) : (List.map ((fun x : Str => x.length) ∘ fun c => S [c]) cs).sum ≤ 16777216 := by
  have e : ((fun x : Str => x.length) ∘ fun c => S [c]) = fun _ => 1 := rfl
  rw [e, List.map_const', List.sum_replicate_nat]
  omega
theorem join_signs (cs : List Nat) : Txt.join (S []) (cs.map fun c => S [c]) = S cs := by
  refine TL.ext_tl ?_
  rw [TL.join_eq, TL.tl_join, List.map_map]
  show TL.joinL [] _ = cs
  rw [joinL_nil]
  have : (TL.tl ∘ fun c => S [c]) = fun c => [c] := rfl
  rw [this]
  induction cs with
  | nil => rfl
  | cons c r ih => simpa using ih
section
variable {P : Program} {w : World} {K : PySem.W.Frag} {mg : Str → Option Value} {base : Heap}
def wsV (ws : List (List Nat)) : List V := ws.map fun w => V.str (S w)
theorem wsV_snoc (ws : List (List Nat)) (w : List Nat) : wsV ws ++ [.str (S w)] = wsV (ws ++ [w]) := by simp [wsV]
theorem wsV_len (ws : List (List Nat)) : (wsV ws).length = ws.length := by simp [wsV]
theorem wsV_get {ws : List (List Nat)} {i : Nat} {w : List Nat} (h : ws[i]? = some w) : (wsV ws)[i]? = some (.str (S w)) := by simp [wsV, h]
theorem ok_snoc {ws : List (List Nat)} {w : List Nat} {R : List Nat → Prop} (h : ∀ x ∈ ws, R x) (h2 : R w) : ∀ x ∈ ws ++ [w], R x := fun x hx => by
  rcases List.mem_append.mp hx with hx | hx
  · exact h x hx
  · rw [List.mem_singleton.mp hx]; exact h2
theorem ok_snoc' {ws : List Nat} {w : Nat} {R : Nat → Prop} (h : ∀ x ∈ ws, R x) (h2 : R w) : ∀ x ∈ ws ++ [w], R x := fun x hx => by
  rcases List.mem_append.mp hx with hx | hx
  · exact h x hx
  · rw [List.mem_singleton.mp hx]; exact h2
theorem wdL_wc (j : Nat) (hj : j < wdL.length) : wc wdL[j] = true := decide_eq_true (List.getElem_mem hj)
def sp_words (K : PySem.W.Frag) : Sp := fun vs H Q _ => ∃ (a l : Addr) (ns : List Int), vs = [.ref a] ∧ Stm H a l ns ∧ ∀ H' p ws, SameBut a H H' → Stm H' a l ns → H p = none → H' p = some (.lst (wsV ws)) → ws.length ≤ 20 → (∀ w ∈ ws, okw w ∧ w.length ≤ 6) → Q (.ref p) H'
theorem ok_words {f : Addr} {fd : FuncData} (F : Fun K "_law_words" "_law_words" s__law_words f fd) (G : GF K mg) (D__law_next : DefOk P w K mg base CX0 1 "_law_next" ["_law_stream_here", "_law_many"] (sp_next K)) : FnOk P w K mg base CX0 2 f fd ["_law_stream_here"] (sp_words K) := by
  refine F.ok sc__law_words (fun vs H Q E h => ?_) (fun cdv A outer s H vs Q E hr h => ?_)
  · obtain ⟨_, _, _, rfl, _⟩ := h
    rfl
  · obtain ⟨a, l, ns, rfl, hS, q⟩ := h
    refine ⟨_, (pss_cons (ps_set (i := 1) sc__law_words.nd rfl (Or.inr rfl) pe_str)
    (pss_cons (ps_set (i := 2) sc__law_words.nd rfl (Or.inl rfl) (pe_lst pa_nil))
    (pss_cons (ps_for PassesOwn.never rfl (pi_range1 (by rfl) G.n_range (pa_cons (pe_callD D__law_next hr pass0 (pa_cons (pv 0) (pa_cons pe_int pa_nil))) pa_nil)) (pg_name (i := 3) sc__law_words.nd rfl (Or.inl rfl))
        (pss_cons (ps_set (i := 4) sc__law_words.nd rfl (Or.inl rfl) (pe_callD D__law_next hr pass0 (pa_cons (pv 0) (pa_cons pe_int pa_nil))))
        (pss_one (ps_if (pt_cmpR op_lt (pv 4) pe_int (nomark _))
            (pss_one (ps_expr (pe_bm PySem.F.plainAttrs_list PySem.F.slot_list_append PySem.F.type_list_append mt_append (pv 2) (pa_cons (pe_ix ix_str pe_str (pv 4) (fun _ _ => rfl)) pa_nil))))
            (pss_one (ps_expr (pe_bm PySem.F.plainAttrs_list PySem.F.slot_list_append PySem.F.type_list_append mt_append (pv 2) (pa_cons (pe_join pe_str (pe_lc (own := [("_law_at", 5)]) (by rfl) sc__law_words.nd (pi_range1 (by rfl) G.n_range (pa_cons (pe_op op_add pe_int (pe_callD D__law_next hr pass0 (pa_cons (pv 0) (pa_cons pe_int pa_nil)))) pa_nil)) (blkOk_by (own := [("_law_at", 5)]) (N := ["_law_stream_here", "_law_chars", "_law_words_here", "_law_k", "_law_pick", "_law_at"]) (sc := defScope s__law_words) (by decide +kernel)) (fun _ _ _ _ _ => (pg_name (i := 5) sc__law_words.nd rfl (Or.inl rfl))) (fun _ _ _ _ _ => pts_nil) (fun _ _ _ _ _ => (pe_ix ix_str (pv 1) (pe_callD D__law_next hr pass0 (pa_cons (pv 0) (pa_cons (pe_callB call_len_str (by rfl) G.n_len PySem.boot_len (pa_cons (pv 1) pa_nil)) pa_nil))) (fun _ _ => rfl))))) pa_nil))))))))
    (pss_one (ps_ret (pv 2)))))), ?_⟩
    refine ⟨Nat.zero_le _, fun p np => ?_⟩
    obtain ⟨hpa, hpl⟩ := hS.ne np
    have s1 : Same H (upd H p (.lst [])) := same_upd np
    refine ⟨_, rfl, a, l, ns, 21, rfl, Stm.mono s1 hS, by decide, by decide, fun H1 n sb hS1 n0 n1 => ?_⟩
    refine ⟨n, rfl, by omega, by omega, ?_⟩
    refine for_range (lo := 0) (n := n.toNat) (fun i σ H' => ∃ ws x3 x4, σ = [some (.ref a), some (.str (S wdL)), some (.ref p), x3, x4, none] ∧ SameBut a H H' ∧ Stm H' a l ns ∧ H' p = some (.lst (wsV ws)) ∧ ws.length = i ∧ ∀ w ∈ ws, okw w ∧ w.length ≤ 6)
      ⟨[], none, none, ?_, fun b o hb ho => sb b o hb (s1 _ _ ho), hS1, ?_, rfl, fun w hw => by cases hw⟩ (fun i σ H2 hi hP => ?_) (fun σ H2 hP => ?_)
    · rw [← words_is]; rfl
    · exact sb p _ hpa upd_same
    · obtain ⟨ws, x3, x4, rfl, sb2, hS2, hp2, hlen, hok⟩ := hP
      refine ⟨_, rfl, a, l, ns, 4, rfl, hS2, by decide, by decide, fun H3 d sb3 hS3 d0 d1 => ?_⟩
      have hp3 := sb3 p _ hpa hp2
      have sb13 := sb2.trans sb3
      refine ⟨_, rfl, _, _, rfl, rfl, _, rfl, ite2 (fun e => ?_) (fun e => ?_)⟩
      · have e2 : d < 2 := of_decide_eq_true e
        obtain ⟨j, rfl⟩ := Int.eq_ofNat_of_zero_le d0
        have hj : j < paL.length := by show j < 2; omega
        refine ⟨.ref p, rfl, .inl ⟨rfl, _, SqL.of hp3⟩, .int (j : Int), rfl, S paL, (j : Int), paL[j], congrArg V.str pas_is, rfl, by decide, atI_nat (by rw [show (S paL).cps.toList = paL from rfl, List.getElem?_eq_getElem hj]), ?_⟩
        refine ⟨p, wsV ws, _, rfl, rfl, hp3, ?_, ?_⟩
        · rw [wsV_len]; exact small_lt (by omega)
        · refine ⟨ws ++ [[paL[j]]], _, _, rfl, SameBut.new sb13 np, hS3.upd hpa hpl, ?_, by simp [hlen], ok_snoc hok ?_⟩
          · rw [upd_same, ← wsV_snoc]
          · have hm : paL[j] = 40 ∨ paL[j] = 41 := by
              have key : ∀ c ∈ paL, c = 40 ∨ c = 41 := by decide
              exact key _ (List.getElem_mem hj)
            refine ⟨.inl ?_, by simp⟩
            rcases hm with hm | hm
            · exact .inl (by rw [hm])
            · exact .inr (by rw [hm])
      · refine ⟨.ref p, rfl, .inl ⟨rfl, _, SqL.of hp3⟩, ⟨_, rfl⟩, _, rfl, a, l, ns, 6, rfl, hS3, by decide, by decide, fun H4 m sb4 hS4 m0 m1 => ?_⟩
        refine ⟨1, m, rfl, rfl, 1 + m, rfl, by omega, by omega, fun D hD => ?_⟩
        have hp4 := sb4 p _ hpa hp3
        have hDa := (hS4.ne hD).1
        have hDl := (hS4.ne hD).2
        have hDp : p ≠ D := ne_of_none hp4 hD
        refine lcY_range (fun i H5 => ∃ cs : List Nat, H5 D = some (.lst (wsV (cs.map fun c => [c]))) ∧ cs.length = i ∧ (∀ c ∈ cs, wc c = true) ∧ SameBut a H4 H5 ∧ Stm H5 a l ns)
          ⟨[], upd_same, rfl, (fun c hc => by cases hc), SameBut.new (SameBut.refl _ _) hD, hS4.upd hDa hDl⟩ (fun i' H5 hi' hP => ?_) (fun H5 hP => ?_)
        · obtain ⟨cs, hD5, hcl, hcw, sb5, hS5⟩ := hP
          refine ⟨rfl, _, rfl, _, rfl, _, rfl, S wdL, rfl, by decide, a, l, ns, _, rfl, hS5, ?_, ?_, fun H6 x sb6 hS6 x0 x1 => ?_⟩
          · rw [S_len]; decide
          · rw [S_len]; decide
          · obtain ⟨j, rfl⟩ := Int.eq_ofNat_of_zero_le x0
            have hj : j < wdL.length := by
              rw [S_len] at x1
              omega
            refine ⟨S wdL, (j : Int), wdL[j], rfl, rfl, by decide, atI_nat (by rw [show (S wdL).cps.toList = wdL from rfl, List.getElem?_eq_getElem hj]), ?_⟩
            have hD6 := sb6 D _ hDa hD5
            refine ⟨_, hD6, ?_, cs ++ [wdL[j]], ?_, by simp [hcl], ok_snoc' hcw (wdL_wc j hj), SameBut.new (sb5.trans sb6) hD, hS6.upd hDa hDl⟩
            · rw [wsV_len, List.length_map]; exact small_lt (by omega)
            · rw [upd_same]
              have := wsV_snoc (cs.map fun c => [c]) [wdL[j]]
              simp only [List.map_append, List.map_cons, List.map_nil] at this ⊢
              rw [← this]
        · obtain ⟨cs, hD5, hcl, hcw, sb5, hS5⟩ := hP
          refine ⟨S [], D, cs.map fun c => S [c], congrArg V.str empty_is, rfl, .inl (SqL.of ?_), ?_, ?_⟩
          · rw [hD5]; simp [wsV]
          · simp [S_len]
            exact signs_sum cs (by omega)
          · rw [join_signs]
            have hp5 := sb5 p _ hpa hp4
            refine ⟨p, wsV ws, _, rfl, rfl, hp5, ?_, ?_⟩
            · rw [wsV_len]; exact small_lt (by omega)
            · refine ⟨ws ++ [cs], _, _, rfl, SameBut.new ((sb13.trans sb4).trans sb5) np, hS5.upd hpa hpl, ?_, by simp [hlen], ok_snoc hok ⟨.inr ⟨?_, hcw⟩, by omega⟩⟩
              · rw [upd_same, ← wsV_snoc]
              · intro z
                rw [z] at hcl
                simp at hcl
                omega
    · obtain ⟨ws, x3, x4, rfl, sb2, hS2, hp2, hlen, hok⟩ := hP
      exact ⟨.ref p, rfl, q H2 p ws sb2 hS2 np hp2 (by omega) hok⟩
end
end Sure

namespace Sure
open PySem PySem.Spec PyProof.Rows L2
/-! ### `word in "()"` -/
theorem mem_of_subAt {x y : Str} {i : Nat} (h : Builtin.Str.subAt x y i = true) : ∀ c ∈ y.cps, c ∈ x.cps := fun c hc => by
  rw [← beq_iff_eq.mp h] at hc
  obtain ⟨k, hk, rfl⟩ := Array.mem_extract_iff_getElem.mp hc
  exact Array.getElem_mem _
theorem in_par {w : List Nat} (hw : okw w) (h : (!(Builtin.Str.occurrences (S paL) (S w) 0 (S paL).length 1).isEmpty) = true) : isPar w := by
  rcases hw with hw | ⟨hne, hall⟩
  · exact hw
  · exfalso
    have hno : Builtin.Str.occurrences (S paL) (S w) 0 (S paL).length 1 = [] := by
      refine PySem.W.occ_nil_of_no _ _ _ fun i hi => ?_
      cases e : Builtin.Str.subAt (S paL) (S w) i with
      | false => rfl
      | true =>
        exfalso
        cases w with
        | nil => exact hne rfl
        | cons c r =>
          have hm := mem_of_subAt e c (by simp)
          have hc := (wc_facts c (hall c List.mem_cons_self)).2.1
          have hm2 : c = 40 ∨ c = 41 := by
            have : c ∈ paL := by simpa using hm
            simpa [paL] using this
          rcases hm2 with rfl | rfl <;> exact absurd hc (by decide)
    rw [hno] at h
    cases h
/-! ### the laid items -/
def itOk (n : Nat) (ws : List (List Nat)) (its : Items) : Prop := ∀ k w g, its[k]? = some (w, g) → okg g ∧ g.length ≤ 20 ∧ (g ≠ [] ∨ k + 1 = n ∨ isPar w ∨ ∃ w', ws[k + 1]? = some w' ∧ isPar w')
theorem head_g {g r : List Nat} (h : okg g) (hne : g ≠ []) : headEnds (g ++ r) := by
  cases g with
  | nil => exact absurd rfl hne
  | cons c g =>
    have h' : (if (false || (bl c || c == 59)) = true then cm ((false || c == 59) && c != 10) g else none) = some false := h
    by_cases e : (false || (bl c || c == 59)) = true
    · show ender c = true
      rw [Bool.false_or] at e
      rcases Bool.or_eq_true_iff.mp e with q | q
      · unfold ender; rw [q]; rfl
      · have : c = 59 := by simpa using q
        rw [this]; decide
    · rw [if_neg e] at h'
      cases h'
theorem wfi_of {rest : List Nat} (hr : headEnds rest) : ∀ (its : Items) (n : Nat) (ws : List (List Nat)), its.map Prod.fst = ws → n = its.length → (∀ w ∈ ws, okw w) → itOk n ws its → WFi rest its
  | [], _, _, _, _, _, _ => trivial
  | (w, g) :: r, n, ws, e1, e2, h1, h2 => by
    subst e1 e2
    obtain ⟨a, b, c⟩ := h2 0 w g rfl
    refine ⟨h1 w (by simp), a, ?_, wfi_of hr r r.length (r.map Prod.fst) rfl rfl (fun x hx => h1 x (by simp at hx ⊢; exact .inr hx)) fun k x y hk => ?_⟩
    · rcases c with c | c | c | ⟨w', c1, c2⟩
      · exact .inr (head_g a c)
      · have : r = [] := by simpa using c
        subst this
        cases g with
        | nil => exact .inr hr
        | cons d g => exact .inr (head_g a (by simp))
      · exact .inl c
      · by_cases hg : g = []
        · subst hg
          cases r with
          | nil => cases c1
          | cons u r =>
            obtain ⟨u1, u2⟩ := u
            have : u1 = w' := by simpa using c1
            subst this
            right
            rcases c2 with c2 | c2 <;> subst c2 <;> rfl
        · exact .inr (head_g a hg)
    · obtain ⟨p, q, s⟩ := h2 (k + 1) x y hk
      refine ⟨p, q, ?_⟩
      rcases s with s | s | s | ⟨w', s1, s2⟩
      · exact .inl s
      · exact .inr (.inl (by simpa using s))
      · exact .inr (.inr (.inl s))
      · exact .inr (.inr (.inr ⟨w', s1, s2⟩))
theorem flat_snoc (w g : List Nat) : ∀ its : Items, flat (its ++ [(w, g)]) = flat its ++ (w ++ g)
  | [] => by simp [flat]
  | (a, b) :: r => by
    show a ++ (b ++ flat (r ++ [(w, g)])) = (a ++ (b ++ flat r)) ++ _
    rw [flat_snoc w g r]; simp [List.append_assoc]
theorem dues_snoc (w g : List Nat) : ∀ (its : Items) (p : List Nat), dues p (its ++ [(w, g)]) = dues p its ++ [(w, lineOf (p ++ flat its), colOf (p ++ flat its))]
  | [], p => by simp [dues, flat]
  | (a, b) :: r, p => by
    show (a, lineOf p, colOf p) :: dues (p ++ (a ++ b)) (r ++ [(w, g)]) = (a, lineOf p, colOf p) :: dues (p ++ (a ++ b)) r ++ _
    rw [dues_snoc w g r]
    show _ = _ :: (_ ++ [(w, lineOf (p ++ (a ++ (b ++ flat r))), _)])
    have e : p ++ (a ++ b) ++ flat r = p ++ (a ++ (b ++ flat r)) := by simp [List.append_assoc]
    rw [e]
    rfl
theorem dues_len : ∀ (its : Items) (p : List Nat), (dues p its).length = its.length
  | [], _ => rfl
  | (a, b) :: r, p => by simp [dues, dues_len r]
theorem flat_len : ∀ its : Items, (∀ x ∈ its, x.1.length ≤ 6 ∧ x.2.length ≤ 20) → (flat its).length ≤ 26 * its.length
  | [], _ => Nat.le_refl _
  | (a, b) :: r, h => by
    have h1 := h (a, b) List.mem_cons_self
    have h2 := flat_len r fun x hx => h x (List.mem_cons_of_mem _ hx)
    simp only [flat, List.length_append, List.length_cons] at h1 h2 ⊢
    omega
/-! ### the places -/
def Pla (H : Hp) (rs : List V) (ds : List (List Nat × Int × Int)) : Prop := rs.length = ds.length ∧ ∀ (k : Nat) (d : List Nat × Int × Int), ds[k]? = some d → ∃ r : Addr, rs[k]? = some (V.ref r) ∧ H r = some (HO.tup [V.int d.2.1, V.int d.2.2])
theorem Pla.but {a : Addr} {H H' : Hp} {rs : List V} {ds : List (List Nat × Int × Int)} (s : SameBut a H H') (ha : ∀ xs, H a ≠ some (.tup xs)) (h : Pla H rs ds) : Pla H' rs ds :=
  ⟨h.1, fun k d e => let ⟨r, r1, r2⟩ := h.2 k d e; ⟨r, r1, s r _ (fun z => ha _ (by rw [← z]; exact r2)) r2⟩⟩
theorem SameBut.new2 {a p : Addr} {H H' : Hp} {o : HO} (x : SameBut a H H') (h : H' p = none) : SameBut a H (L2.upd H' p o) := fun b u n e => by
  have e2 := x b u n e
  rw [upd_ne (ne_of_none e2 h)]
  exact e2
theorem Pla.snoc {H : Hp} {rs : List V} {ds : List (List Nat × Int × Int)} {d : List Nat × Int × Int} {r : Addr} (h : Pla H rs ds) (hr : H r = some (HO.tup [V.int d.2.1, V.int d.2.2])) : Pla H (rs ++ [.ref r]) (ds ++ [d]) := by
  refine ⟨by simp [h.1], fun k x e => ?_⟩
  by_cases hk : k < ds.length
  · rw [List.getElem?_append_left hk] at e
    obtain ⟨r', a, b⟩ := h.2 k x e
    exact ⟨r', by rw [List.getElem?_append_left (by rw [h.1]; exact hk)]; exact a, b⟩
  · rw [List.getElem?_append_right (by omega)] at e
    have hz : k - ds.length = 0 := by
      cases hz : k - ds.length with
      | zero => rfl
      | succ n => rw [hz] at e; simp at e
    rw [hz] at e
    have ex : d = x := by simpa using e
    subst ex
    refine ⟨r, ?_, hr⟩
    rw [List.getElem?_append_right (by rw [h.1]; omega), h.1, hz]
    rfl
theorem Stm.notup {H : Hp} {a l : Addr} {ns : List Int} (h : Stm H a l ns) : ∀ xs, H a ≠ some (.tup xs) := fun xs e => by
  obtain ⟨c, k, h1, _⟩ := h
  rw [h1] at e
  cases e
section
variable {P : Program} {w : World} {K : PySem.W.Frag} {mg : Str → Option Value} {base : Heap}
def endL : List Nat := [59, 32, 116, 104, 101, 32, 101, 110, 100, 32, 40, 111, 102, 32, 105, 116]
theorem end_is : (V.str "; the end (of it") = .str (S endL) := by decide +kernel
theorem endL_ok : okg (endL ++ [10]) := by
  have : cm false (endL ++ [10]) = some false := by decide +kernel
  exact this
theorem endL_head : headEnds (endL ++ [10]) := by
  show ender 59 = true
  decide
def sp_laid (K : PySem.W.Frag) : Sp := fun vs H Q _ => ∃ (a l b : Addr) (ns : List Int) (ws : List (List Nat)), vs = [.ref a, .ref b] ∧ Stm H a l ns ∧ b ≠ a ∧ H b = some (.lst (wsV ws)) ∧ ws.length ≤ 20 ∧ (∀ w ∈ ws, okw w ∧ w.length ≤ 6) ∧
  ∀ H' T p g0 its tl rs, SameBut a H H' → Stm H' a l ns → H' T = some (.tup [.str (S (g0 ++ (flat its ++ tl))), .ref p]) → p ≠ a → H' p = some (.lst rs) → Pla H' rs (dues g0 its) → its.map Prod.fst = ws → okg g0 → okg (tl ++ [10]) → WFi (tl ++ [10]) its → (g0 ++ (flat its ++ tl)).length ≤ 1000 → Q (.ref T) H'
theorem ok_laid {f : Addr} {fd : FuncData} (F : Fun K "_law_laid" "_law_laid" s__law_laid f fd) (G : GF K mg) (D__law_next : DefOk P w K mg base CX0 1 "_law_next" ["_law_stream_here", "_law_many"] (sp_next K)) (D__law_gap : DefOk P w K mg base CX0 2 "_law_gap" ["_law_stream_here", "_law_tight"] (sp_gap K)) :
    FnOk P w K mg base CX0 3 f fd ["_law_stream_here", "_law_words_here"] (sp_laid K) := by
  refine F.ok sc__law_laid (fun vs H Q E h => ?_) (fun cdv A outer s H vs Q E hr h => ?_)
  · obtain ⟨_, _, _, _, _, rfl, _⟩ := h
    rfl
  · obtain ⟨a, l, b, ns, ws, rfl, hS, hba, hB, hn, hok, q⟩ := h
    refine ⟨_, (pss_cons (ps_set (i := 2) sc__law_laid.nd rfl (Or.inl rfl) (pe_callD D__law_gap hr pass0 (pa_cons (pv 0) (pa_cons pe_bl pa_nil))))
    (pss_cons (ps_set (i := 3) sc__law_laid.nd rfl (Or.inl rfl) (pe_lst pa_nil))
    (pss_cons (ps_for PassesOwn.never rfl (pi_enum (by rfl) G.n_enumerate (pa_cons (pv 1) pa_nil)) (pg_tup rfl (pgs_cons (pg_name (i := 4) sc__law_laid.nd rfl (Or.inl rfl)) (pgs_cons (pg_name (i := 5) sc__law_laid.nd rfl (Or.inl rfl)) pgs_nil)))
        (pss_cons (ps_expr (pe_bm PySem.F.plainAttrs_list PySem.F.slot_list_append PySem.F.type_list_append mt_append (pv 3) (pa_cons (pe_tup (pa_cons (pe_op op_add pe_int (pe_m1 PySem.F.slot_str_count PySem.F.type_str_count mt_count (pv 2) pe_str)) (pa_cons (pe_op op_sub (pe_callB call_len_str (by rfl) G.n_len PySem.boot_len (pa_cons (pv 2) pa_nil)) (pe_m1 PySem.F.slot_str_rfind PySem.F.type_str_rfind mt_rfind (pv 2) pe_str)) pa_nil))) pa_nil)))
        (pss_cons (ps_set (i := 2) sc__law_laid.nd rfl (Or.inl rfl) (pe_op op_add_str (pv 2) (pv 5)))
        (pss_cons (ps_set (i := 6) sc__law_laid.nd rfl (Or.inl rfl) (pe_up (pe_or (pe_cmpR op_eq (pe_op op_add (pv 4) pe_int) (pe_callB lenQ (by rfl) G.n_len PySem.boot_len (pa_cons (pv 1) pa_nil)) (nomark _)) (pe_or (pe_cmpR op_in_str (pv 5) pe_str (by rfl)) (pe_one (pe_cmpR op_in_str (pe_ix (ixL (K := K)) (pv 1) (pe_op op_add (pv 4) pe_int) (fun _ _ => rfl)) pe_str (by rfl)))))))
        (pss_one (ps_set (i := 2) sc__law_laid.nd rfl (Or.inl rfl) (pe_op op_add_str (pv 2) (pe_callD D__law_gap hr pass0 (pa_cons (pv 0) (pa_cons (pv 6) pa_nil))))))))))
    (Evl.pss_cut (ps_if (pt_cmpR op_eq (pe_callD (D__law_next.mono (by decide : 1 ≤ 2)) hr pass0 (pa_cons (pv 0) (pa_cons pe_int pa_nil))) pe_int (nomark _))
        (pss_one (ps_set (i := 2) sc__law_laid.nd rfl (Or.inl rfl) (pe_op op_add_str (pv 2) pe_str)))
        pss_nil)
    (pss_one (ps_ret (pe_tup (pa_cons (pv 2) (pa_cons (pv 3) pa_nil))))))))), ?_⟩
    refine ⟨_, rfl, a, l, ns, true, rfl, hS, fun H1 g0 sb1 hS1 hg0 _ => ?_⟩
    have og0 := gaps_okg g0 hg0
    have lg0 := gaps_len g0 hg0
    refine ⟨Nat.zero_le _, fun p np => ?_⟩
    obtain ⟨hpa, hpl⟩ := hS1.ne np
    have hB0 : H1 b = some (.lst (wsV ws)) := sb1 b _ hba hB
    have hbp : b ≠ p := ne_of_none hB0 np
    have hB1 : (upd H1 p (.lst [])) b = some (.lst (wsV ws)) := same_upd np _ _ hB0
    refine ⟨_, rfl, b, wsV ws, rfl, SqL.of hB1, ?_⟩
    refine for_it (walk_enum (xs := wsV ws)) (fun i σ H' => ∃ its rs x4 x5 x6, σ = [some (.ref a), some (.ref b), some (.str (S (g0 ++ flat its))), some (.ref p), x4, x5, x6] ∧ SameBut a H H' ∧ H' b = some (.lst (wsV ws)) ∧ Stm H' a l ns ∧ H' p = some (.lst rs) ∧ Pla H' rs (dues g0 its) ∧ its.map Prod.fst = ws.take i ∧ itOk ws.length ws its ∧ its.length = i)
      ⟨[], [], none, none, none, ?_, SameBut.new2 sb1 np, hB1, hS1.upd hpa hpl, upd_same, ⟨rfl, fun k d e => by simp [dues] at e⟩, by simp, fun k w g e => by simp at e, rfl⟩ (fun i σ H' _ hP => ?_) (fun i v σ H2 H3 hi hP hY => ?_) (fun σ H2 hP => ?_)
    · simp [flat]; rfl
    · obtain ⟨its, rs, x4, x5, x6, rfl, h1, h2, h3⟩ := hP
      exact SqL.of h2
    · obtain ⟨its, rs, x4, x5, x6, rfl, sb2, hB2, hS2, hp2, hpl2, hfst, hit, hil⟩ := hP
      obtain ⟨T, x, y, rfl, nT, rfl, ex, ey⟩ := hY
      obtain rfl : V.int (i : Nat) = x := by simpa using ex
      have hi2 : i < ws.length := by rw [wsV_len] at hi; exact hi
      have hy : y = .str (S ws[i]) := by
        have ey : (wsV ws)[i]? = some y := ey
        rw [wsV_get (List.getElem?_eq_getElem hi2)] at ey
        exact (Option.some.inj ey).symm
      subst hy
      have hwi := hok ws[i] (List.getElem_mem hi2)
      have sbT : SameBut a H (upd H2 T (.tup [.int (i : Nat), .str (S ws[i])])) := SameBut.new2 sb2 nT
      obtain ⟨hTa, hTl⟩ := hS2.ne nT
      have hTp : p ≠ T := fun e => by rw [← e, hp2] at nT; cases nT
      have sT : Same H2 (upd H2 T (.tup [.int (i : Nat), .str (S ws[i])])) := same_upd nT
      have hfl : (flat its).length ≤ 26 * its.length := flat_len its fun x hx => by
        obtain ⟨k, hk, e⟩ := List.mem_iff_getElem.mp hx
        have e2 : its[k]? = some (x.1, x.2) := by rw [List.getElem?_eq_getElem hk, e]
        refine ⟨?_, (hit k _ _ e2).2.1⟩
        have : x.1 ∈ ws.take i := by rw [← hfst]; exact List.mem_map_of_mem hx
        exact (hok _ (List.mem_of_mem_take this)).2
      have hlen : (g0 ++ flat its).length ≤ 600 := by rw [List.length_append]; omega
      refine ⟨T, _, rfl, SqT.of upd_same, rfl, _, _, rfl, ?_⟩
      refine ⟨_, _, rfl, rfl, ?_⟩
      -- places.append
      have c1 : 1 + Txt.count (S (g0 ++ flat its)) (S [10]) = lineOf (g0 ++ flat its) := place_line (S (g0 ++ flat its))
      have c2 : ((S (g0 ++ flat its)).length : Int) - Txt.rfind (S (g0 ++ flat its)) (S [10]) = colOf (g0 ++ flat its) := place_col (S (g0 ++ flat its))
      refine ⟨.ref p, rfl, .inl ⟨rfl, _, SqL.of (sT _ _ hp2)⟩, ?_⟩
      refine ⟨_, rfl, ⟨_, rfl⟩, _, S [10], rfl, congrArg (fun x => [V.str x]) nl_is, _, _, rfl, rfl, ?_⟩
      refine ⟨_, rfl, _, rfl, small_le (by rw [S_len]; omega), _, rfl, ⟨_, rfl⟩, _, S [10], rfl, congrArg (fun x => [V.str x]) nl_is, _, _, rfl, rfl, (show 2 ≤ sizeLine by decide), fun r nr => ?_⟩
      have hrp : p ≠ r := fun e => by
        rw [← e, sT _ _ hp2] at nr
        cases nr
      have hrlen : rs.length = i := by rw [hpl2.1, dues_len, hil]
      refine ⟨p, rs, _, rfl, rfl, ?_, ?_, ?_⟩
      · rw [upd_ne hrp]
        exact sT _ _ hp2
      · exact small_lt (by omega)
      have hra : r ≠ a := fun e => by
        obtain ⟨c, k, h1, _⟩ := hS2
        rw [e, sT _ _ h1] at nr
        cases nr
      have hrl : r ≠ l := fun e => by
        obtain ⟨c, k, h1, _, h3, _⟩ := hS2
        rw [e, sT _ _ h3] at nr
        cases nr
      have hbT : b ≠ T := ne_of_none hB2 nT
      have hbr : b ≠ r := ne_of_none (sT _ _ hB2) nr
      -- the heap behind it
      dsimp only
      rw [c1, c2]
      generalize hH4 : upd (upd (upd H2 T (.tup [.int (i : Nat), .str (S ws[i])])) r (.tup [.int (lineOf (g0 ++ flat its)), .int (colOf (g0 ++ flat its))])) p (.lst (rs ++ [.ref r])) = H4
      have sb4 : SameBut a H H4 := by
        rw [← hH4]
        intro b' o n e
        have e2 := sb2 b' o n e
        have n2 := ne_of_none e2 nT
        have n3 := ne_of_none (sT _ _ e2) nr
        by_cases n4 : b' = p
        · subst n4
          rw [sb1 _ _ n e] at np
          cases np
        · rw [upd_ne n4, upd_ne n3, upd_ne n2]
          exact e2
      have hS4 : Stm H4 a l ns := by
        rw [← hH4]
        exact ((hS2.upd hTa hTl).upd hra hrl).upd hpa hpl
      have hB4 : H4 b = some (.lst (wsV ws)) := by
        rw [← hH4, upd_ne hbp, upd_ne hbr, upd_ne hbT]
        exact hB2
      have hp4 : H4 p = some (.lst (rs ++ [.ref r])) := by rw [← hH4, upd_same]
      have hpl4 : Pla H4 (rs ++ [.ref r]) (dues g0 its ++ [(ws[i], lineOf (g0 ++ flat its), colOf (g0 ++ flat its))]) := by
        refine Pla.snoc ?_ ?_
        · rw [← hH4]
          refine ⟨hpl2.1, fun k d e => ?_⟩
          obtain ⟨u, u1, u2⟩ := hpl2.2 k d e
          refine ⟨u, u1, ?_⟩
          have n1 : u ≠ p := fun z => by
            rw [z, hp2] at u2
            cases u2
          rw [upd_ne n1, upd_ne (ne_of_none (sT _ _ u2) nr)]
          exact sT _ _ u2
        · rw [← hH4, upd_ne (Ne.symm hrp), upd_same]
      have hws : ws[i].length ≤ 6 := hwi.2
      refine ⟨_, rfl, _, rfl, S (g0 ++ flat its), S ws[i], rfl, rfl, small_le (by rw [S_len, S_len]; omega), ?_⟩
      rw [S_app]
      -- tight
      refine ⟨fun v H' => H' = H4 ∧ ∃ t, v = .bl t ∧ (t = true → i + 1 = ws.length ∨ isPar ws[i] ∨ ∃ w', ws[i + 1]? = some w' ∧ isPar w'), ?_, fun v H' hR => ?_⟩
      · refine ⟨_, rfl, (i : Int), 1, rfl, rfl, _, rfl, b, wsV ws, rfl, .inl (SqL.of hB4), rfl, _, rfl, ite2 (fun e => ?_) (fun e => ?_)⟩
        · refine ⟨rfl, true, rfl, fun _ => .inl ?_⟩
          have e2 := of_decide_eq_true e
          rw [wsV_len] at e2
          have e3 : (i : Int) + 1 = (ws.length : Int) := V.int.inj e2
          omega
        · have hne : i + 1 < ws.length := by
            refine Nat.lt_of_le_of_ne hi2 fun z => e (decide_eq_true ?_)
            rw [wsV_len, ← z]
            rfl
          refine ⟨_, rfl, S ws[i], S paL, rfl, congrArg V.str pas_is, _, rfl, ite2 (fun e2 => ?_) (fun e2 => ?_)⟩
          · exact ⟨rfl, true, rfl, fun _ => .inr (.inl (in_par hwi.1 e2))⟩
          · refine ⟨_, rfl, _, rfl, (i : Int), 1, rfl, rfl, ?_⟩
            refine rIxL_of (SqL.of hB4) (j := i + 1) (by omega) (v := .str (S ws[i + 1])) (wsV_get (List.getElem?_eq_getElem hne)) ?_
            refine ⟨S ws[i + 1], S paL, rfl, congrArg V.str pas_is, rfl, _, rfl, fun e3 => .inr (.inr ⟨_, List.getElem?_eq_getElem hne, in_par (hok _ (List.getElem_mem hne)).1 e3⟩)⟩
      obtain ⟨rfl, t, rfl, ht⟩ := hR
      refine ⟨_, rfl, _, rfl, _, rfl, a, l, ns, t, rfl, hS4, fun H5 g sb5 hS5 hg hgt => ?_⟩
      have lg := gaps_len g hg
      refine ⟨_, _, rfl, rfl, small_le (by rw [S_len, S_len, List.length_append]; omega), ?_⟩
      rw [S_app]
      refine ⟨its ++ [(ws[i], g)], rs ++ [.ref r], some (.int (i : Nat)), some (.str (S ws[i])), some (.bl t), ?_, sb4.trans sb5, ?_, hS5, sb5 _ _ hpa hp4, ?_, ?_, ?_, by simp [hil]⟩
      · rw [flat_snoc]
        simp only [List.append_assoc]
        rfl
      · exact sb5 _ _ hba hB4
      · rw [dues_snoc]
        exact Pla.but sb5 hS4.notup hpl4
      · rw [List.map_append, hfst, List.take_succ_eq_append_getElem hi2]
        rfl
      · intro k x y hk
        by_cases hlt : k < its.length
        · rw [List.getElem?_append_left hlt] at hk
          exact hit k x y hk
        · rw [List.getElem?_append_right (by omega)] at hk
          have hz : k - its.length = 0 := by
            cases hz : k - its.length with
            | zero => rfl
            | succ n => rw [hz] at hk; simp at hk
          rw [hz] at hk
          have ex : (ws[i], g) = (x, y) := by simpa using hk
          cases ex
          have hki : k = i := by omega
          subst hki
          refine ⟨gaps_okg _ hg, lg, ?_⟩
          cases t with
          | false => exact .inl (hgt rfl)
          | true =>
            rcases ht rfl with h | h | h
            · exact .inr (.inl h)
            · exact .inr (.inr (.inl h))
            · exact .inr (.inr (.inr h))
    · obtain ⟨its, rs, x4, x5, x6, rfl, sb2, hB2, hS2, hp2, hpl2, hfst, hit, hil⟩ := hP
      rw [wsV_len] at hfst hil
      rw [List.take_length] at hfst
      have hfl : (flat its).length ≤ 26 * its.length := flat_len its fun x hx => by
        obtain ⟨k, hk, e⟩ := List.mem_iff_getElem.mp hx
        have e2 : its[k]? = some (x.1, x.2) := by rw [List.getElem?_eq_getElem hk, e]
        refine ⟨?_, (hit k _ _ e2).2.1⟩
        have : x.1 ∈ ws := by rw [← hfst]; exact List.mem_map_of_mem hx
        exact (hok _ this).2
      have hlen : (g0 ++ flat its).length ≤ 600 := by rw [List.length_append]; omega
      have wf : ∀ tl : List Nat, headEnds (tl ++ [10]) → WFi (tl ++ [10]) its := fun tl ht => wfi_of ht its ws.length ws hfst hil.symm (fun w hw => (hok w hw).1) hit
      refine ⟨fun σ' H' => ∃ tl, σ' = [some (.ref a), some (.ref b), some (.str (S (g0 ++ (flat its ++ tl)))), some (.ref p), x4, x5, x6] ∧ SameBut a H2 H' ∧ Stm H' a l ns ∧ tl.length ≤ 16 ∧ okg (tl ++ [10]) ∧ headEnds (tl ++ [10]), ?_, fun σ' H' hM => ?_⟩
      · refine ⟨_, rfl, a, l, ns, 4, rfl, hS2, by decide, by decide, fun H3 d sb3 hS3 d0 d1 => ?_⟩
        refine ⟨rfl, _, rfl, ite2 (fun e => ?_) (fun e => ?_)⟩
        · refine ⟨_, rfl, S (g0 ++ flat its), S endL, rfl, end_is, small_le (by rw [S_len, S_len]; show _ + 16 ≤ _; omega), ?_⟩
          rw [S_app]
          refine ⟨endL, ?_, sb3, hS3, by decide, endL_ok, endL_head⟩
          rw [List.append_assoc]
          rfl
        · refine ⟨[], ?_, sb3, hS3, by decide, by show cm false [10] = some false; decide, by show ender 10 = true; decide⟩
          rw [List.append_nil]
      · obtain ⟨tl, rfl, sb3, hS3, htl, h1, h2⟩ := hM
        refine ⟨_, rfl, _, rfl, (show 2 ≤ sizeLine by decide), fun T nT => ?_⟩
        have s3 : Same H' (upd H' T (.tup [.str (S (g0 ++ (flat its ++ tl))), .ref p])) := same_upd nT
        obtain ⟨hTa, hTl⟩ := hS3.ne nT
        refine q _ T p g0 its tl rs (SameBut.new2 (sb2.trans sb3) nT) (hS3.upd hTa hTl) upd_same hpa (s3 _ _ (sb3 _ _ hpa hp2)) ?_ hfst og0 h1 (wf tl h2) ?_
        · exact Pla.but (SameBut.new2 sb3 nT) hS2.notup hpl2
        · rw [← List.append_assoc, List.length_append]
          omega
end
end Sure

namespace Sure
open PySem PySem.Spec PyProof.Rows L2 L2H HotX
section
variable {P : Program} {w : World} {K : PySem.W.Frag} {mg : Str → Option Value} {base : Heap}
theorem ok_isintH {f : Addr} {fd : FuncData} (F : Fun K "_law_is_integer" "_law_is_integer" s__law_is_integer f fd) (G : GF K mg) : FnH P w K mg base CX0 1 f fd ["_law_actual"] (sp_isint K) := by
  refine okHot F sc__law_is_integer (fun vs H Q E h => ?_) (fun cdv A outer s H vs Q E pp hot hr h => ?_)
  · obtain ⟨_, _, rfl, _⟩ := h
    rfl
  · obtain ⟨x, d, rfl, hd, q⟩ := h
    refine ⟨_, (pss_one (ps_ret (pe_and (pe_callB isiV (by rfl) G.n_isinstance (by decide +kernel) (pa_cons (pv 0) (pa_cons (pe_tyN "int" (by rfl) G.n_int (by decide +kernel)) pa_nil))) (pe_one (pe_not (pe_callB isiV (by rfl) G.n_isinstance (by decide +kernel) (pa_cons (pv 0) (pa_cons (pe_tyN "bool" (by rfl) G.n_bool (by decide +kernel)) pa_nil)))))))), ?_⟩
    refine ⟨x, rfl, x, _, _, _, _, rfl, .ty "int", tyx_dp hd, kit_all _ (tyN_mem d) _ (by decide), _, rfl, ite2 (fun e => ?_) (fun e => ?_)⟩
    · refine ⟨x, rfl, x, _, _, _, _, rfl, .ty "bool", tyx_dp hd, kit_all _ (tyN_mem d) _ (by decide), _, rfl, ?_⟩
      rw [e, Bool.true_and] at q
      exact q
    · have e2 : isT (tyN d) "int" = false := by simpa using e
      rw [e2, Bool.false_and] at q
      exact q
theorem ok_equalH {f : Addr} {fd : FuncData} (F : Fun K "_law_equal" "_law_equal" s__law_equal f fd) (G : GF K mg) (bE : Binds K fd ["_law_actual", "_law_due"] []) (gE : mg "_law_equal" = some (.ref f)) (DI : DefH P w K mg base CX0 1 "_law_is_integer" ["_law_actual"] (sp_isint K)) :
    ∀ n, FnH P w K mg base CX0 (n + 2) f fd ["_law_actual", "_law_due"] (spE K n)
  | 0 => ⟨fun _ _ _ _ h => h.elim, fun _ _ _ _ _ _ _ _ _ _ _ _ _ _ _ _ h => h.elim⟩
  | n + 1 => by
    have IH := ok_equalH F G bE gE DI n
    have D__law_equal : DefH P w K mg base CX0 (n + 2) "_law_equal" ["_law_actual", "_law_due"] (spE K n) := ⟨f, fd, IH, gE, F.kp, bE⟩
    refine okHot F sc__law_equal (fun vs H Q E h => ?_) (fun cdv A outer s H vs Q E pp hot hr h => ?_)
    · obtain ⟨_, _, _, rfl, _⟩ := h
      rfl
    · obtain ⟨x, y, d, rfl, hx, hy, hd, q⟩ := h
      refine ⟨_, (pss_cons (ps_if (pt_cmpR op_isN (pv 1) pe_non (nomark _))
        (pss_one (ps_ret (pe_cmpR op_isN (pv 0) pe_non (nomark _))))
        pss_nil)
    (pss_cons (ps_if (pt_val (pe_callB isiV (by rfl) G.n_isinstance (by decide +kernel) (pa_cons (pv 1) (pa_cons (pe_tyN "bool" (by rfl) G.n_bool (by decide +kernel)) pa_nil))))
        (pss_one (ps_ret (pe_and (pe_callB isiV (by rfl) G.n_isinstance (by decide +kernel) (pa_cons (pv 0) (pa_cons (pe_tyN "bool" (by rfl) G.n_bool (by decide +kernel)) pa_nil))) (pe_one (pe_cmpR op_eq (pv 0) (pv 1) (nomark _))))))
        pss_nil)
    (pss_cons (ps_if (pt_val (pe_callB isiV (by rfl) G.n_isinstance (by decide +kernel) (pa_cons (pv 1) (pa_cons (pe_tyN "int" (by rfl) G.n_int (by decide +kernel)) pa_nil))))
        (pss_one (ps_ret (pe_and (pe_callDH (E := fun _ => E0) DI (hr.mono (by omega)) (hotC_cxH hot) pass0S (pa_cons (pv 0) pa_nil)) (pe_one (pe_cmpR op_eq (pv 0) (pv 1) (nomark _))))))
        pss_nil)
    (pss_cons (ps_if (pt_val (pe_callB isiV (by rfl) G.n_isinstance (by decide +kernel) (pa_cons (pv 1) (pa_cons (pe_tyN "str" (by rfl) G.n_str (by decide +kernel)) pa_nil))))
        (pss_one (ps_ret (pe_and (pe_callB isiV (by rfl) G.n_isinstance (by decide +kernel) (pa_cons (pv 0) (pa_cons (pe_tyN "str" (by rfl) G.n_str (by decide +kernel)) pa_nil))) (pe_one (pe_cmpR op_eq (pv 0) (pv 1) (nomark _))))))
        pss_nil)
    (Evl.pss_cut (ps_if (PW.pt (pw_and (pt_val (pe_callB isiV (by rfl) G.n_isinstance (by decide +kernel) (pa_cons (pv 1) (pa_cons (pe_tyN "tuple" (by rfl) G.n_tuple (by decide +kernel)) pa_nil)))) (pw_and1 (pt_not (pt_val (pe_callB isiV (by rfl) G.n_isinstance (by decide +kernel) (pa_cons (pv 0) (pa_cons (pe_tyN "tuple" (by rfl) G.n_tuple (by decide +kernel)) pa_nil))))))))
        (pss_one (ps_ret pe_bl))
        pss_nil)
    (Evl.pss_cut (ps_if (PW.pt (pw_and (pt_val (pe_callB isiV (by rfl) G.n_isinstance (by decide +kernel) (pa_cons (pv 1) (pa_cons (pe_tyN "list" (by rfl) G.n_list (by decide +kernel)) pa_nil)))) (pw_and1 (pt_not (pt_val (pe_callB isiV (by rfl) G.n_isinstance (by decide +kernel) (pa_cons (pv 0) (pa_cons (pe_tyN "list" (by rfl) G.n_list (by decide +kernel)) pa_nil))))))))
        (pss_one (ps_ret pe_bl))
        pss_nil)
    (pss_cons (ps_if (pt_cmpR op_ne (pe_callB lenQ (by rfl) G.n_len PySem.boot_len (pa_cons (pv 0) pa_nil)) (pe_callB lenQ (by rfl) G.n_len PySem.boot_len (pa_cons (pv 1) pa_nil)) (nomark _))
        (pss_one (ps_ret pe_bl))
        pss_nil)
    (pss_one (ps_ret (pe_callB (allH (hotC_cxH hot)) (by rfl) G.n_all (by decide +kernel) (pa_cons (pe_lcH (own := [("_law_at", 2)]) (hotC_cxH hot) sc__law_equal.nd (pi_range1H (by rfl) G.n_range (pa_cons (pe_callB lenQ (by rfl) G.n_len PySem.boot_len (pa_cons (pv 1) pa_nil)) pa_nil)) (blkOk_by (own := [("_law_at", 2)]) (N := ["_law_actual", "_law_due", "_law_at"]) (sc := defScope s__law_equal) (by decide +kernel)) (fun _ _ _ _ _ _ _ => (pg_name (i := 2) sc__law_equal.nd rfl (Or.inl rfl))) (fun _ _ _ _ _ _ _ => pts_nil) (fun _ _ _ _ _ _ hot2 => (pe_callDH (E := fun _ => E0) D__law_equal hr (hotC_blkP hot2) pass0S (pa_cons (pe_ix (ixQ (K := K)) (pv 0) (pv 2) (fun _ _ => rfl)) (pa_cons (pe_ix (ixQ (K := K)) (pv 1) (pv 2) (fun _ _ => rfl)) pa_nil))))) pa_nil))))))))))), ?_⟩
      rcases seq_or d with ⟨ds, hseq⟩ | hscal
      · obtain ⟨a, xs, rfl, hxs, hxd⟩ := sq_of_dp hseq hx
        obtain ⟨b, ys, rfl, hys, hyd⟩ := sq_of_dp hseq hy
        obtain ⟨m, rfl, hlen, hok⟩ := okD_seq hseq hd
        have hyn : ys.length = ds.length := DpAll.length hyd
        have hxn : xs.length = ds.length := DpAll.length hxd
        refine ⟨_, rfl, rfl, _, rfl, ite_false' rfl ?_⟩
        refine ⟨_, rfl, _, _, _, _, _, rfl, .ty "bool", tyx_dp hy, kit_all _ (tyN_mem _) _ (by decide), _, rfl, ite_false' (by rcases hseq with rfl | rfl <;> rfl) ?_⟩
        refine ⟨_, rfl, _, _, _, _, _, rfl, .ty "int", tyx_dp hy, kit_all _ (tyN_mem _) _ (by decide), _, rfl, ite_false' (by rcases hseq with rfl | rfl <;> rfl) ?_⟩
        refine ⟨_, rfl, _, _, _, _, _, rfl, .ty "str", tyx_dp hy, kit_all _ (tyN_mem _) _ (by decide), _, rfl, ite_false' (by rcases hseq with rfl | rfl <;> rfl) ?_⟩
        refine ⟨fun σ' H' => σ' = [some (.ref a), some (.ref b), none] ∧ H' = H, ?_, fun σ' H' hM => ?_⟩
        · refine ⟨_, rfl, _, _, _, _, _, rfl, .ty "tuple", tyx_dp hy, kit_all _ (tyN_mem _) _ (by decide), _, rfl, ite2 (fun e => ?_) (fun e => ite_false' rfl ⟨rfl, rfl⟩)⟩
          refine ⟨_, rfl, _, _, _, _, _, rfl, .ty "tuple", tyx_dp hx, kit_all _ (tyN_mem _) _ (by decide), _, rfl, ?_⟩
          rw [e]
          exact ite_false' rfl ⟨rfl, rfl⟩
        obtain ⟨rfl, rfl⟩ := hM
        refine ⟨fun σ' H'' => σ' = [some (.ref a), some (.ref b), none] ∧ H'' = H', ?_, fun σ' H'' hM => ?_⟩
        · refine ⟨_, rfl, _, _, _, _, _, rfl, .ty "list", tyx_dp hy, kit_all _ (tyN_mem _) _ (by decide), _, rfl, ite2 (fun e => ?_) (fun e => ite_false' rfl ⟨rfl, rfl⟩)⟩
          refine ⟨_, rfl, _, _, _, _, _, rfl, .ty "list", tyx_dp hx, kit_all _ (tyN_mem _) _ (by decide), _, rfl, ?_⟩
          rw [e]
          exact ite_false' rfl ⟨rfl, rfl⟩
        obtain ⟨rfl, rfl⟩ := hM
        refine ⟨_, rfl, a, xs, rfl, hxs, _, rfl, b, ys, rfl, hys, rfl, _, rfl, ite_false' ?_ ?_⟩
        · rw [hxn, hyn, decide_eq_true rfl]
          rfl
        refine ⟨_, rfl, b, ys, rfl, hys, _, rfl, by omega, by omega, fun D hD => ?_⟩
        refine lcY_range (fun i H2 => Same H'' H2 ∧ H2 D = some (.lst (List.replicate i (.bl true)))) ⟨same_upd hD, upd_same⟩ (fun i H2 hi hP => ?_) (fun H2 hP => ?_)
        · obtain ⟨s2, eD⟩ := hP
          have hi2 : i < ds.length := by omega
          have e0 : (0 : Int) + (i : Int) = (i : Int) := by omega
          obtain ⟨xv, hxv, dx⟩ := DpAll.get hxd (List.getElem?_eq_getElem hi2)
          obtain ⟨yv, hyv, dy⟩ := DpAll.get hyd (List.getElem?_eq_getElem hi2)
          refine ⟨rfl, ?_⟩
          refine ⟨_, rfl, _, rfl, rIx_of (hxs.mono s2) e0 hxv ⟨_, rfl, _, rfl, rIx_of (hys.mono s2) e0 hyv ?_⟩⟩
          refine ⟨xv, yv, _, rfl, dp_mono s2 dx, dp_mono s2 dy, hok _ (List.getElem_mem hi2), fun H3 s3 => ?_⟩
          refine ⟨_, s3 _ _ eD, ?_, ?_, ?_⟩
          · rw [List.length_replicate]
            exact small_lt (by omega)
          · refine fun c o hc => ?_
            have hcD : c ≠ D := ne_of_none hc hD
            rw [upd_ne hcD]
            exact s3 _ _ (s2 _ _ hc)
          · rw [upd_same, rep_snoc]
        · obtain ⟨s2, eD⟩ := hP
          refine ⟨D, List.replicate _ true, rfl, SqL.of (by rw [eD, rep_map]), ?_⟩
          rw [rep_all]
          exact q H2 s2
      · cases d with
        | none =>
          cases hx; cases hy
          exact ⟨_, rfl, rfl, _, rfl, ite_true' rfl ⟨_, rfl, rfl, q H (Same.refl H)⟩⟩
        | bool b =>
          have ex := hx; have ey := hy
          cases hx; cases hy
          refine ⟨_, rfl, rfl, _, rfl, ite_false' rfl ?_⟩
          refine ⟨_, rfl, _, _, _, _, _, rfl, .ty "bool", tyx_dp ey, kit_all _ (tyN_mem _) _ (by decide), _, rfl, ite_true' rfl ?_⟩
          refine ⟨_, rfl, _, _, _, _, _, rfl, .ty "bool", tyx_dp ex, kit_all _ (tyN_mem _) _ (by decide), _, rfl, ite_true' rfl ?_⟩
          refine ⟨_, rfl, _, rfl, rfl, ?_⟩
          rw [decide_eq_true (rfl : V.bl b = V.bl b)]
          exact q H (Same.refl H)
        | int i =>
          have ex := hx; have ey := hy
          cases hx; cases hy
          refine ⟨_, rfl, rfl, _, rfl, ite_false' rfl ?_⟩
          refine ⟨_, rfl, _, _, _, _, _, rfl, .ty "bool", tyx_dp ey, kit_all _ (tyN_mem _) _ (by decide), _, rfl, ite_false' rfl ?_⟩
          refine ⟨_, rfl, _, _, _, _, _, rfl, .ty "int", tyx_dp ey, kit_all _ (tyN_mem _) _ (by decide), _, rfl, ite_true' rfl ?_⟩
          refine ⟨_, rfl, _, _, rfl, ex, _, rfl, ite_true' rfl ?_⟩
          refine ⟨_, rfl, _, rfl, rfl, ?_⟩
          rw [decide_eq_true (rfl : V.int i = V.int i)]
          exact q H (Same.refl H)
        | str z =>
          have ex := hx; have ey := hy
          cases hx; cases hy
          refine ⟨_, rfl, rfl, _, rfl, ite_false' rfl ?_⟩
          refine ⟨_, rfl, _, _, _, _, _, rfl, .ty "bool", tyx_dp ey, kit_all _ (tyN_mem _) _ (by decide), _, rfl, ite_false' rfl ?_⟩
          refine ⟨_, rfl, _, _, _, _, _, rfl, .ty "int", tyx_dp ey, kit_all _ (tyN_mem _) _ (by decide), _, rfl, ite_false' rfl ?_⟩
          refine ⟨_, rfl, _, _, _, _, _, rfl, .ty "str", tyx_dp ey, kit_all _ (tyN_mem _) _ (by decide), _, rfl, ite_true' rfl ?_⟩
          refine ⟨_, rfl, _, _, _, _, _, rfl, .ty "str", tyx_dp ex, kit_all _ (tyN_mem _) _ (by decide), _, rfl, ite_true' rfl ?_⟩
          refine ⟨_, rfl, _, rfl, rfl, ?_⟩
          rw [decide_eq_true (rfl : V.str z = V.str z)]
          exact q H (Same.refl H)
        | dict _ => cases n <;> exact hd.elim
        | list ds => exact absurd rfl (hscal ds).1
        | tuple ds => exact absurd rfl (hscal ds).2
end
end Sure

namespace Sure
open PySem PySem.Spec PyProof.Rows L2 L2H HotX
theorem takes0N {X : Cx} : L2N.Takes X (fun _ _ _ _ => False) := fun _ _ x => by
  obtain ⟨_, _, _, _, _, _, _, _, _, _, _, _, _, _, _, _, z⟩ := x
  exact z.elim
theorem hotC_suite {X : Cx} {a : Addr} {oe : Obj} {cls : Value} {d : Option Addr} {pn : List (Addr × Obj)} (hz : L2N.Zn cls d oe) (hf : ∃ vs, oe.data = .fields vs) : HotC (X.suite a ((a, oe) :: pn)) := by
  obtain ⟨vs, hv⟩ := hf
  exact ⟨(a, oe), ⟨rfl, vs, hv, hz.2.2 vs hv⟩, List.mem_cons_self⟩
section
variable {P : Program} {w : World} {K : PySem.W.Frag} {mg : Str → Option Value} {base : Heap}
def sp_refused (K : PySem.W.Frag) : Sp := fun vs H Q _ => ∃ (z : List Nat) (T : Addr) (l c : Int), vs = [.str (S z), .ref T] ∧ z.length ≤ 100000 ∧ SqT K H T [.int l, .int c] ∧ srun sc0 (z ++ [10]) = .inl (l, c) ∧ ∀ H', Same H H' → Q (.bl true) H'
theorem ok_refused {f C fI : Addr} {fd : FuncData} (F : Fun K "_law_refused" "_law_refused" s__law_refused f fd) (G : GF K mg) (T : TeC K mg C fI) (D_scan : DefOk P w K mg base (L2N.CX P w) 3 "scan" ["text"] (sp_scan K C)) (D_eq : DefH P w K mg base CX0 4 "_law_equal" ["_law_actual", "_law_due"] (spE K 2)) :
    FnOk P w K mg base CX0 5 f fd ["_law_text", "_law_due"] (sp_refused K) := by
  refine F.ok sc__law_refused (fun vs H Q E h => ?_) (fun cdv A outer s H vs Q E hr h => ?_)
  · obtain ⟨_, _, _, _, rfl, _⟩ := h
    rfl
  · obtain ⟨z, t, l, c, rfl, hz, ht, hrun, q⟩ := h
    refine ⟨_, pss_cons (L2N.ps_try_as (x := "TextError") (n := "problem") (i := 2) (c := .ref C) (Wout := fun _ _ _ _ => False) rfl rfl sc__law_refused.nd rfl rfl ⟨rfl, by decide, .inl T.g⟩ takes0N
      (fun W pn xe tk po => pss_one (ps_expr (pe_callDS D_scan (hr.mono (by decide)) (fun σ => L2N.passAt tk σ) (pa_cons (pv 0) pa_nil))))
      (fun a oe cls d pn hz hf => pss_one (ps_ret (pe_callDH (E := fun _ => E0) D_eq (roomH_mark hr _) (hotC_suite hz hf) pass0S
        (pa_cons (pe_lst (pa_cons (pe_xf T.xf T.n1 hz.zc hf (pv 2)) (pa_cons (pe_xf T.xf T.n2 hz.zc hf (pv 2)) (pa_cons (pe_xf T.xf T.n3 hz.zc hf (pv 2)) pa_nil))))
        (pa_cons (pe_lst (pa_cons (pe_ix (ixT (K := K)) (pv 1) pe_int (fun _ _ => rfl)) (pa_cons (pe_ix (ixT (K := K)) (pv 1) pe_int (fun _ _ => rfl)) (pa_cons pe_str pa_nil)))) pa_nil))))))
      (pss_one (ps_ret pe_bl)), ?_⟩
    refine ⟨_, rfl, z, rfl, hz, fun t' e => ?_, fun l' c' e d H1 s1 hd => ?_⟩
    · rw [hrun] at e
      cases e
    · rw [hrun] at e
      cases e
      refine ⟨true, T.exm, fun _ a na => ?_, fun e => Bool.noConfusion e⟩
      have ht1 : SqT K H1 t [.int l, .int c] := Same.tup s1 ht
      refine ⟨_, rfl, rfl, rfl, d, _, _, rfl, hd, rfl, _, rfl, rfl, rfl, d, _, _, rfl, hd, rfl, _, rfl, rfl, rfl, d, _, _, rfl, hd, rfl, ?_⟩
      refine ⟨(show 3 ≤ sizeLine by decide), fun p np => ?_⟩
      have s2 : Same H1 (upd H1 p (.lst [.int l, .int c, .str noSuch])) := same_upd np
      refine ⟨_, rfl, ?_⟩
      simp only [tC]
      refine rIxT_of (i := 0) (j := 0) (Same.tup s2 ht1) rfl rfl ?_
      refine ⟨_, rfl, ?_⟩
      refine rIxT_of (i := 1) (j := 1) (Same.tup s2 ht1) rfl rfl ?_
      refine ⟨(show 3 ≤ sizeLine by decide), fun r nr => ?_⟩
      have s3 : Same (upd H1 p (.lst [.int l, .int c, .str noSuch])) (upd (upd H1 p (.lst [.int l, .int c, .str noSuch])) r (.lst [.int l, .int c, .str noSuch])) := same_upd nr
      have dat : ∀ {H : Hp}, DpAll K H [.int l, .int c, .str noSuch] [.int l, .int c, .str noSuch] := .cons (.int _) (.cons (.int _) (.cons (.str _) .nil))
      refine ⟨.ref p, .ref r, .list [.int l, .int c, .str noSuch], rfl, .lst (SqL.of (s3 _ _ upd_same)) dat, .lst (SqL.of upd_same) dat, ⟨(show 3 ≤ 1000000 by decide), fun x hx => ?_⟩, fun H4 s4 => ?_⟩
      · simp only [List.mem_cons, List.not_mem_nil, or_false] at hx
        rcases hx with rfl | rfl | rfl <;> exact trivial
      · exact q H4 ((s1.trans s2).trans (s3.trans s4))
end
end Sure

namespace Sure
open PySem PySem.Spec PyProof.Rows L2
theorem dues_get : ∀ (its : Items) (p : List Nat) (k : Nat) (w g : List Nat), its[k]? = some (w, g) → (dues p its)[k]? = some (w, lineOf (p ++ flat (its.take k)), colOf (p ++ flat (its.take k)))
  | [], _, _, _, _, h => by simp at h
  | (a, b) :: r, p, 0, w, g, h => by
    have e : (a, b) = (w, g) := by simpa using h
    cases e
    simp [dues, flat]
  | (a, b) :: r, p, k + 1, w, g, h => by
    have h' : r[k]? = some (w, g) := by simpa using h
    have ih := dues_get r (p ++ (a ++ b)) k w g h'
    have e : p ++ (a ++ b) ++ flat (r.take k) = p ++ flat ((a, b) :: r.take k) := by simp [flat, List.append_assoc]
    rw [e] at ih
    simpa [dues] using ih
theorem flat_split : ∀ (its : Items) (k : Nat) (w g : List Nat), its[k]? = some (w, g) → flat its = flat (its.take k) ++ (w ++ (g ++ flat (its.drop (k + 1))))
  | [], _, _, _, h => by simp at h
  | (a, b) :: r, 0, w, g, h => by
    have e : (a, b) = (w, g) := by simpa using h
    cases e
    simp [flat]
  | (a, b) :: r, k + 1, w, g, h => by
    have h' : r[k]? = some (w, g) := by simpa using h
    have ih := flat_split r k w g h'
    show a ++ (b ++ flat r) = (a ++ (b ++ flat (r.take k))) ++ (w ++ (g ++ flat (r.drop (k + 1))))
    rw [ih]
    simp [List.append_assoc]
theorem cmE_take (rest : List Nat) : ∀ (its : Items) (k : Nat), WFi rest its → cmE false (flat (its.take k)) = some false
  | _, 0, _ => by simp [flat, cmE]
  | [], k + 1, _ => by simp [flat, cmE]
  | (w, g) :: r, k + 1, h => by
    obtain ⟨h1, h2, _, h4⟩ := h
    show cmE false (w ++ (g ++ flat (r.take k))) = _
    rw [cmE_app w _ _ _ (cmE_word h1), cmE_app g _ _ _ (cmE_gap g _ _ h2)]
    exact cmE_take rest r k h4
theorem wfi_word (rest : List Nat) : ∀ (its : Items) (k : Nat) (w g : List Nat), WFi rest its → its[k]? = some (w, g) → okw w
  | [], _, _, _, _, h => by simp at h
  | (a, b) :: r, 0, w, g, h, e => by
    have e' : (a, b) = (w, g) := by simpa using e
    cases e'
    exact h.1
  | (a, b) :: r, k + 1, w, g, h, e => wfi_word rest r k w g h.2.2.2 (by simpa using e)
theorem okw_nl {w : List Nat} (h : okw w) (k : Nat) : nls (w.take k) = 0 := by
  refine nls_zero _ fun c hc => ?_
  have hc := List.mem_of_mem_take hc
  rcases h with h | h
  · rcases h with h | h <;> (rw [h] at hc; have e : c = _ := List.mem_singleton.mp hc; rw [e]; decide)
  · exact (wc_facts c (h.2 c hc)).2.2.1
/-- THE LAW of a bad sign within a word -/
theorem scan_into {g0 rest : List Nat} {its : Items} {k i x : Nat} {w g q : List Nat} (h0 : okg g0) (wf : WFi rest its) (hk : its[k]? = some (w, g)) (hi : i < w.length) (hx : bad x) :
    srun sc0 (g0 ++ flat (its.take k) ++ w.take i ++ x :: q) = .inl (lineOf (g0 ++ flat (its.take k)), colOf (g0 ++ flat (its.take k)) + (i : Int)) := by
  have hw := wfi_word rest its k w g wf hk
  have c1 : cmE false (g0 ++ flat (its.take k) ++ w.take i) = some false := by
    rw [List.append_assoc, cmE_app g0 _ _ _ (cmE_gap g0 _ _ h0), cmE_app _ _ _ _ (cmE_take rest its k wf)]
    exact cmE_part hw i
  have hl : (w.take i).length = i := by simp; omega
  rw [scan_bad c1 hx, lineOf_app (okw_nl hw i), colOf_app (okw_nl hw i), hl]
/-- where it is put -/
theorem put_at {g0 tl : List Nat} {its : Items} {k i : Nat} {w g : List Nat} (hk : its[k]? = some (w, g)) :
    sizes ((lns (g0 ++ (flat its ++ tl))).take (lineOf (g0 ++ flat (its.take k)) - 1).toNat) + colOf (g0 ++ flat (its.take k)) - 1 + (i : Int) = ((g0 ++ flat (its.take k)).length + i : Nat) := by
  have e : g0 ++ (flat its ++ tl) = (g0 ++ flat (its.take k)) ++ (w ++ (g ++ flat (its.drop (k + 1))) ++ tl) := by
    rw [flat_split its k w g hk]
    simp [List.append_assoc]
  have h := lns_place (g0 ++ flat (its.take k)) (w ++ (g ++ flat (its.drop (k + 1))) ++ tl)
  rw [e]
  have e2 : (lineOf (g0 ++ flat (its.take k)) - 1).toNat = nls (g0 ++ flat (its.take k)) := by unfold lineOf; omega
  rw [e2]
  unfold colOf
  omega
def strL : List Nat := [33, 34, 35, 36, 38, 39, 44, 46, 47, 58, 64, 91, 93, 94, 123, 124, 125, 126, 92]
theorem str_is : (V.str "!\"#$&',./:\x40[]^{|}~\\") = .str (S strL) := by decide +kernel
theorem str_bad : ∀ c ∈ strL, bad c := by
  have : ∀ c ∈ strL, bl c = false ∧ dl c = false ∧ wc c = false := by decide +kernel
  exact this
end Sure

namespace Sure
open PySem PySem.Spec PyProof.Rows L2
theorem rd_tC {v : V} {σ : L2.St} {H : Hp} {Q : VK} (h : Q v H) : tC v σ H Q := h
theorem rd_nil {σ : L2.St} {H : Hp} {Q : List V → Hp → Prop} (h : Q [] H) : tNil σ H Q := h
theorem nls_le : ∀ l : List Nat, nls l ≤ l.length
  | [] => Nat.le_refl _
  | c :: r => by
    have := nls_le r
    simp only [nls, List.length_cons]
    split <;> omega
theorem cutV_to (xs : List V) {e : Int} {m : Nat} (h : e = (m : Int)) : cutV xs none (some e) = xs.take m := by
  subst h
  unfold cutV
  rw [HT.sIx_nat]
  show (xs.drop 0).take (min m xs.length - 0) = _
  rw [List.drop_zero, Nat.sub_zero]
  by_cases hm : m ≤ xs.length
  · rw [Nat.min_eq_left hm]
  · rw [Nat.min_eq_right (by omega), List.take_length, List.take_of_length_le (by omega)]
theorem cutS_to (z : List Nat) {e : Int} {m : Nat} (h : e = (m : Int)) : cutS (S z) none (some e) = S (z.take m) := by
  subst h
  unfold cutS
  rw [HT.sIx_nat]
  show S ((z.drop 0).take (min m (S z).length - 0)) = _
  rw [List.drop_zero, Nat.sub_zero, S_len]
  by_cases hm : m ≤ z.length
  · rw [Nat.min_eq_left hm]
  · rw [Nat.min_eq_right (by omega), List.take_length, List.take_of_length_le (by omega)]
theorem cutS_from (z : List Nat) {e : Int} {m : Nat} (h : e = (m : Int)) (hm : m ≤ z.length) : cutS (S z) (some e) none = S (z.drop m) := by
  subst h
  unfold cutS
  rw [HT.sIx_nat]
  show S ((z.drop (min m (S z).length)).take ((S z).length - min m (S z).length)) = _
  rw [S_len, Nat.min_eq_left hm, List.take_of_length_le (by rw [List.length_drop]; omega)]
theorem lns_each : ∀ z : List Nat, ∀ y ∈ lns z, y.length ≤ z.length
  | [], y, h => by
    have e : y = [] := by simpa [lns] using h
    rw [e]
    exact Nat.le_refl _
  | c :: z, y, h => by
    have ih := lns_each z
    simp only [lns] at h
    simp only [List.length_cons]
    by_cases hc : c = 10
    · rw [if_pos hc] at h
      rcases List.mem_cons.mp h with h | h
      · rw [h]; simp
      · have := ih y h
        omega
    · rw [if_neg hc] at h
      cases e : lns z with
      | nil => exact absurd e (lns_ne z)
      | cons u v =>
        rw [e] at h ih
        rcases List.mem_cons.mp h with h | h
        · have := ih u List.mem_cons_self
          rw [h, List.length_cons]
          omega
        · have := ih y (List.mem_cons_of_mem _ h)
          omega
theorem wsV_take (ws : List (List Nat)) (m : Nat) : (wsV ws).take m = wsV (ws.take m) := by unfold wsV; rw [List.map_take]
theorem passN {X : Cx} : Passes (L2N.CX X.prog X.w) X E0 := fun _ _ _ _ _ _ _ h => by
  obtain ⟨_, _, _, _, _, _, _, _, _, _, _, _, z⟩ := h
  exact z.elim
/-- what stands through the law -/
structure LW (a l b p : Addr) (ns : List Int) (ws : List (List Nat)) (rs : List V) (ds : List (List Nat × Int × Int)) (H : Hp) : Prop where
  st : Stm H a l ns
  hb : H b = some (.lst (wsV ws))
  hp : H p = some (.lst rs)
  pl : Pla H rs ds
section
variable {a l b p : Addr} {ns : List Int} {ws : List (List Nat)} {rs : List V} {ds : List (List Nat × Int × Int)} {H H' : Hp}
theorem Pla.same (s : Same H H') (h : Pla H rs ds) : Pla H' rs ds := ⟨h.1, fun k d e => let ⟨r, r1, r2⟩ := h.2 k d e; ⟨r, r1, s r _ r2⟩⟩
theorem LW.same (s : Same H H') (h : LW a l b p ns ws rs ds H) : LW a l b p ns ws rs ds H' := ⟨Stm.mono s h.st, s _ _ h.hb, s _ _ h.hp, h.pl.same s⟩
theorem LW.but (s : SameBut a H H') (st : Stm H' a l ns) (nb : b ≠ a) (np : p ≠ a) (h : LW a l b p ns ws rs ds H) : LW a l b p ns ws rs ds H' := ⟨st, s _ _ nb h.hb, s _ _ np h.hp, h.pl.but s h.st.notup⟩
end
section
variable {P : Program} {w : World} {K : PySem.W.Frag} {mg : Str → Option Value} {base : Heap} {C : Addr}
def sp_law (K : PySem.W.Frag) : Sp := fun vs H Q _ => ∃ (l : Addr) (ns : List Int), vs = [.ref l] ∧ SqL K H l (ns.map V.int) ∧ ∀ H', Q (.bl true) H'
theorem ok_law {f : Addr} {fd : FuncData} (F : Fun K "law" "law" s_law f fd) (G : GF K mg) (D__law_stream : DefOk P w K mg base CX0 1 "_law_stream" ["_law_script"] (sp_stream K)) (D__law_next : DefOk P w K mg base CX0 1 "_law_next" ["_law_stream_here", "_law_many"] (sp_next K))
    (D__law_words : DefOk P w K mg base CX0 2 "_law_words" ["_law_stream_here"] (sp_words K)) (D__law_laid : DefOk P w K mg base CX0 3 "_law_laid" ["_law_stream_here", "_law_words_here"] (sp_laid K)) (D__law_equal : DefOk P w K mg base CX0 5 "_law_equal" ["_law_actual", "_law_due"] (spE K 3))
    (D_scan : DefOk P w K mg base (L2N.CX P w) 3 "scan" ["text"] (sp_scan K C)) (D_end_of : DefOk P w K mg base CX0 1 "end_of" ["text"] (sp_end K)) (D__law_refused : DefOk P w K mg base CX0 5 "_law_refused" ["_law_text", "_law_due"] (sp_refused K)) :
    FnOk P w K mg base CX0 6 f fd ["_law_script"] (sp_law K) := by
  refine F.ok sc_law (fun vs H Q E h => ?_) (fun cdv A outer s H vs Q E hr h => ?_)
  · obtain ⟨_, _, rfl, _⟩ := h
    rfl
  · obtain ⟨l0, ns, rfl, hl0, q⟩ := h
    refine ⟨_, (pss_cons (ps_set (i := 1) sc_law.nd rfl (Or.inl rfl) (pe_callD (D__law_stream.mono (by decide : 1 ≤ 5)) hr pass0 (pa_cons (pv 0) pa_nil)))
      (pss_cons (ps_set (i := 2) sc_law.nd rfl (Or.inr rfl) (pe_callD (D__law_words.mono (by decide : 2 ≤ 5)) hr pass0 (pa_cons (pv 1) pa_nil)))
      (pss_cons (ps_asg (pe_callD (D__law_laid.mono (by decide : 3 ≤ 5)) hr pass0 (pa_cons (pv 1) (pa_cons (pv 2) pa_nil))) (pg_tup rfl (pgs_cons (pg_name (i := 3) sc_law.nd rfl (Or.inl rfl)) (pgs_cons (pg_name (i := 4) sc_law.nd rfl (Or.inr rfl)) pgs_nil))))
      (pss_cons (ps_setLc (i := 5) (own := [("_law_k", 8)]) (by rfl) sc_law.nd rfl rfl (sw_true rfl rfl rfl (by decide +kernel)) (pi_range1 (by rfl) G.n_range (pa_cons (pe_callB lenQ (by rfl) G.n_len PySem.boot_len (pa_cons (pv 2) pa_nil)) pa_nil)) (blkOk_by (own := [("_law_k", 8)]) (N := ["_law_script", "_law_stream_here", "_law_words_here", "_law_text", "_law_places", "_law_due", "_law_lines", "_law_strange", "_law_k", "_law_into", "_law_at", "_law_behind", "_law_line"]) (sc := defScope s_law) (by decide +kernel)) (fun _ _ _ _ _ => (pg_name (i := 8) sc_law.nd rfl (Or.inl rfl))) (fun _ _ _ _ _ => pts_nil) (fun _ _ _ _ _ => (pe_tup (pa_cons (pe_ix (ixL (K := K)) (pv 2) (pv 8) (fun _ _ => rfl)) (pa_cons (pe_ix (ixT (K := K)) (pe_ix (ixL (K := K)) (pv 4) (pv 8) (fun _ _ => rfl)) pe_int (fun _ _ => rfl)) (pa_cons (pe_ix (ixT (K := K)) (pe_ix (ixL (K := K)) (pv 4) (pv 8) (fun _ _ => rfl)) pe_int (fun _ _ => rfl)) pa_nil))))))
      (pss_cons (ps_if (PW.pt (pw_or (pt_not (pt_val (pe_callD D__law_equal hr pass0 (pa_cons (pe_callD (D_scan.mono (by decide : 3 ≤ 5)) hr passN (pa_cons (pv 3) pa_nil)) (pa_cons (pv 5) pa_nil))))) (pw_or1 (pt_not (pt_val (pe_callD D__law_equal hr pass0 (pa_cons (pe_callD (D_scan.mono (by decide : 3 ≤ 5)) hr passN (pa_cons (pv 3) pa_nil)) (pa_cons (pv 5) pa_nil))))))))
          (pss_one (ps_ret pe_bl))
          pss_nil)
      (pss_cons (ps_set (i := 6) sc_law.nd rfl (Or.inl rfl) (pe_split (pv 3) pe_str))
      (pss_cons (ps_if (pt_not (pt_val (pe_callD D__law_equal hr pass0 (pa_cons (pe_callD (D_end_of.mono (by decide : 1 ≤ 5)) hr pass0 (pa_cons (pv 3) pa_nil)) (pa_cons (pe_tup (pa_cons (pe_callB lenQ (by rfl) G.n_len PySem.boot_len (pa_cons (pv 6) pa_nil)) (pa_cons (pe_op op_add (pe_callB call_len_str (by rfl) G.n_len PySem.boot_len (pa_cons (pe_ix (ixL (K := K)) (pv 6) (pe_un un_neg pe_int) (fun _ _ => rfl)) pa_nil)) pe_int) pa_nil))) pa_nil)))))
          (pss_one (ps_ret pe_bl))
          pss_nil)
      (pss_cons (ps_if (PW.pt (pw_and (pt_truth (pv 2) (by intro _; rfl)) (pw_and1 (pt_cmpR op_eq (pe_callD (D__law_next.mono (by decide : 1 ≤ 5)) hr pass0 (pa_cons (pv 1) (pa_cons pe_int pa_nil))) pe_int (nomark _)))))
          (pss_cons (ps_set (i := 7) sc_law.nd rfl (Or.inl rfl) pe_str)
          (pss_cons (ps_set (i := 8) sc_law.nd rfl (Or.inl rfl) (pe_callD (D__law_next.mono (by decide : 1 ≤ 5)) hr pass0 (pa_cons (pv 1) (pa_cons (pe_callB lenQ (by rfl) G.n_len PySem.boot_len (pa_cons (pv 2) pa_nil)) pa_nil))))
          (pss_cons (ps_set (i := 9) sc_law.nd rfl (Or.inl rfl) (pe_callD (D__law_next.mono (by decide : 1 ≤ 5)) hr pass0 (pa_cons (pv 1) (pa_cons (pe_callB call_len_str (by rfl) G.n_len PySem.boot_len (pa_cons (pe_ix (ixL (K := K)) (pv 2) (pv 8) (fun _ _ => rfl)) pa_nil)) pa_nil))))
          (pss_cons (ps_set (i := 10) sc_law.nd rfl (Or.inl rfl) (pe_op op_add (pe_op op_sub (pe_op op_add (pe_callB sumL (by rfl) G.n_sum (by decide +kernel) (pa_cons (pe_lc (own := [("_law_line", 12)]) (by rfl) sc_law.nd (pi_list (pe_slice (slL (K := K)) (pv 6) po_none (po_some (pe_op op_sub (pe_ix (ixT (K := K)) (pe_ix (ixL (K := K)) (pv 4) (pv 8) (fun _ _ => rfl)) pe_int (fun _ _ => rfl)) pe_int)))) (blkOk_by (own := [("_law_line", 12)]) (N := ["_law_script", "_law_stream_here", "_law_words_here", "_law_text", "_law_places", "_law_due", "_law_lines", "_law_strange", "_law_k", "_law_into", "_law_at", "_law_behind", "_law_line"]) (sc := defScope s_law) (by decide +kernel)) (fun _ _ _ _ _ => (pg_name (i := 12) sc_law.nd rfl (Or.inl rfl))) (fun _ _ _ _ _ => pts_nil) (fun _ _ _ _ _ => (pe_op op_add (pe_callB call_len_str (by rfl) G.n_len PySem.boot_len (pa_cons (pv 12) pa_nil)) pe_int))) pa_nil)) (pe_ix (ixT (K := K)) (pe_ix (ixL (K := K)) (pv 4) (pv 8) (fun _ _ => rfl)) pe_int (fun _ _ => rfl))) pe_int) (pv 9)))
          (pss_cons (ps_set (i := 11) sc_law.nd rfl (Or.inl rfl) (pe_op op_add_str (pe_op op_add_str (pe_slice sl_str (pv 3) po_none (po_some (pv 10))) (pe_ix ix_str (pv 7) (pe_callD (D__law_next.mono (by decide : 1 ≤ 5)) hr pass0 (pa_cons (pv 1) (pa_cons (pe_callB call_len_str (by rfl) G.n_len PySem.boot_len (pa_cons (pv 7) pa_nil)) pa_nil))) (fun _ _ => rfl))) (pe_slice sl_str (pv 3) (po_some (pv 10)) po_none)))
          (Evl.pss_cut (ps_if (pt_cmpR op_eq (pe_callD (D__law_next.mono (by decide : 1 ≤ 5)) hr pass0 (pa_cons (pv 1) (pa_cons pe_int pa_nil))) pe_int (nomark _))
              (pss_one (ps_set (i := 11) sc_law.nd rfl (Or.inl rfl) (pe_op op_add_str (pv 11) pe_str)))
              pss_nil)
          (pss_one (ps_ret (pe_callD D__law_refused hr pass0 (pa_cons (pv 11) (pa_cons (pe_tup (pa_cons (pe_ix (ixT (K := K)) (pe_ix (ixL (K := K)) (pv 4) (pv 8) (fun _ _ => rfl)) pe_int (fun _ _ => rfl)) (pa_cons (pe_op op_add (pe_ix (ixT (K := K)) (pe_ix (ixL (K := K)) (pv 4) (pv 8) (fun _ _ => rfl)) pe_int (fun _ _ => rfl)) (pv 9)) pa_nil))) pa_nil)))))))))))
          pss_nil)
      (pss_one (ps_ret pe_bl)))))))))), ?_⟩
    refine ⟨_, rfl, l0, ns, rfl, hl0, fun H1 a l s1 na0 nl0 hS1 => ?_⟩
    refine ⟨_, rfl, a, l, ns, rfl, hS1, fun H2 b ws sb2 hS2 nb hb2 hws hwok => ?_⟩
    have hba : b ≠ a := (hS1.ne nb).1
    refine ⟨_, rfl, _, rfl, a, l, b, ns, ws, rfl, hS2, hba, hb2, hws, hwok, fun H3 T p g0 its tl rs sb3 hS3 hT hpa hp3 hpl3 hfst og0 otl wf hlen => ?_⟩
    have L3 : LW a l b p ns ws rs (dues g0 its) H3 := ⟨hS3, sb3 _ _ hba hb2, hp3, hpl3⟩
    have hil : its.length = ws.length := by rw [← hfst, List.length_map]
    obtain ⟨t, ht, hfound⟩ := scan_laid og0 otl wf
    have ez : g0 ++ (flat its ++ (tl ++ [10])) = (g0 ++ (flat its ++ tl)) ++ [10] := by simp [List.append_assoc]
    rw [ez] at ht
    generalize hz : g0 ++ (flat its ++ tl) = z at hT hlen ht
    refine ⟨T, _, rfl, SqT.of hT, rfl, _, _, rfl, ?_⟩
    refine ⟨_, _, rfl, rfl, ?_⟩
    refine ⟨_, rfl, b, wsV ws, rfl, .inl (SqL.of L3.hb), _, rfl, by rw [wsV_len]; omega, by rw [wsV_len]; omega, fun D hD => ?_⟩
    refine lcY_range (fun i H => LW a l b p ns ws rs (dues g0 its) H ∧ Same H3 H ∧ ∃ as : List Addr, H D = some (.lst (as.map V.ref)) ∧ as.length = i ∧ Toks H as ((dues g0 its).take i))
      ⟨L3.same (same_upd hD), same_upd hD, [], upd_same, rfl, .nil⟩ (fun i H4 hi hP => ?_) (fun H4 hP => ?_)
    · obtain ⟨L4, s4, as, hD4, hal, hk⟩ := hP
      refine ⟨rfl, ?_⟩
      have hi2 : i < ws.length := by
        rw [wsV_len] at hi
        omega
      have e0 : (0 : Int) + (i : Int) = (i : Int) := by omega
      have hdl : (dues g0 its).length = ws.length := by rw [dues_len, hil]
      obtain ⟨⟨w1, g1⟩, hwg⟩ : ∃ wg, its[i]? = some wg := ⟨_, List.getElem?_eq_getElem (by rw [hil]; exact hi2)⟩
      have hdi := dues_get its g0 i w1 g1 hwg
      have hwi : ws[i]? = some w1 := by rw [← hfst, List.getElem?_map, hwg]; rfl
      obtain ⟨r, hr1, hr2⟩ := L4.pl.2 i _ hdi
      generalize lineOf (g0 ++ flat (its.take i)) = li at hdi hr2
      generalize colOf (g0 ++ flat (its.take i)) = ci at hdi hr2
      refine ⟨_, rfl, _, rfl, rIxL_of (SqL.of L4.hb) e0 (wsV_get hwi) ?_⟩
      refine ⟨_, rfl, _, rfl, rIxL_of (SqL.of L4.hp) e0 hr1 ?_⟩
      refine rd_tC ?_
      refine rIxT_of (i := 0) (j := 0) (SqT.of hr2) rfl rfl ?_
      refine ⟨_, rfl, _, rfl, rIxL_of (SqL.of L4.hp) e0 hr1 ?_⟩
      refine rd_tC ?_
      refine rIxT_of (i := 1) (j := 1) (SqT.of hr2) rfl rfl ?_
      refine ⟨(show 3 ≤ sizeLine by decide), fun u nu => ?_⟩
      have su : Same H4 (upd H4 u (.tup [.str (S w1), .int li, .int ci])) := same_upd nu
      have huD : D ≠ u := fun e => by rw [← e, hD4] at nu; cases nu
      refine ⟨as.map V.ref, ?_, ?_, ?_⟩
      · rw [upd_ne huD]; exact hD4
      · rw [List.length_map, hal]; exact small_lt (by omega)
      have sD : Same H3 (upd (upd H4 u (.tup [.str (S w1), .int li, .int ci])) D (.lst (as.map V.ref ++ [.ref u]))) := fun c o hc => by
        rw [upd_ne (ne_of_none hc hD)]
        exact su _ _ (s4 _ _ hc)
      refine ⟨L3.same sD, sD, as ++ [u], ?_, by simp [hal], ?_⟩
      · rw [upd_same, List.map_append]
        rfl
      · rw [List.take_succ, hdi]
        refine paired_snoc (Toks.mono (fun c xs hc => ?_) hk) ?_
        · have n1 : c ≠ D := fun e => by
            rw [e, hD4] at hc
            cases hc
          rw [upd_ne n1]
          exact su _ _ hc
        · rw [upd_ne (Ne.symm huD), upd_same]
          rfl
    · obtain ⟨L4, s4, as, hD4, hal, hk⟩ := hP
      rw [wsV_len] at hal hk
      have hal : as.length = ws.length := hal
      have hk : Toks H4 as ((dues g0 its).take ws.length) := hk
      have hdl : (dues g0 its).length = ws.length := by rw [dues_len, hil]
      rw [← hdl, List.take_length] at hk
      have zdp : ∀ {H : Hp}, Same H4 H → Dp K H (.ref D) (.list ((dues g0 its).map tokD)) := fun s5 => .lst (SqL.of (s5 _ _ hD4)) (toks_dp (Toks.mono (fun c xs hc => s5 _ _ hc) hk))
      have okd : okD 2 (.list ((dues g0 its).map tokD)) := by
        refine ⟨by rw [List.length_map, hdl]; omega, fun x hx => ?_⟩
        obtain ⟨y, hy, rfl⟩ := List.mem_map.mp hx
        refine ⟨(show 3 ≤ 1000000 by decide), fun v hv => ?_⟩
        simp only [List.mem_cons, List.not_mem_nil, or_false] at hv
        rcases hv with rfl | rfl | rfl <;> exact trivial
      have scn : ∀ {H5 : Hp} {Q : VK}, (∀ H' p, Same H5 H' → Dp K H' (.ref p) (.list ((dues g0 its).map tokD)) → Q (.ref p) H') → sp_scan K C [.str (S z)] H5 Q E0 := fun {H5 Q} h => by
        refine ⟨z, rfl, by omega, fun t' e H' p' s' hd' => ?_, fun l' c' e => ?_⟩
        · rw [ht] at e
          cases e
          rw [hfound] at hd'
          exact h H' p' s' hd'
        · rw [ht] at e
          cases e
      -- twice the scan
      refine ⟨_, rfl, ?_⟩
      refine rd_nil ?_
      refine scn fun H5 p5 s5 hd5 => ?_
      refine ⟨_, rfl, .ref p5, .ref D, _, rfl, hd5, zdp s5, okd, fun H6 s6 => ?_⟩
      refine ⟨_, rfl, ?_⟩
      refine ite_false' rfl ?_
      refine ⟨_, rfl, ?_⟩
      refine rd_nil ?_
      refine scn fun H7 p7 s7 hd7 => ?_
      have s47 := (s5.trans s6).trans s7
      refine ⟨_, rfl, .ref p7, .ref D, _, rfl, hd7, zdp s47, okd, fun H8 s8 => ?_⟩
      refine ⟨_, rfl, ?_⟩
      refine ite_false' rfl ?_
      -- the lines
      have L8 := L4.same (s47.trans s8)
      refine ⟨_, rfl, ⟨_, rfl⟩, S z, S [10], rfl, congrArg (fun x => [V.str x]) nl_is, by decide, small_le (by rw [S_len]; omega), fun p8 np8 => ?_⟩
      have hsp : (Txt.split (S z) (S [10])).map V.str = wsV (lns z) := by
        have e := split_nl (S z)
        rw [tl_S] at e
        rw [← e]
        show _ = List.map _ (List.map _ _)
        rw [List.map_map]
        refine List.map_congr_left fun x _ => ?_
        show V.str x = V.str (S (TL.tl x))
        rw [S_tl]
      rw [hsp]
      have s9 : Same H8 (upd H8 p8 (.lst (wsV (lns z)))) := same_upd np8
      generalize hH9 : upd H8 p8 (.lst (wsV (lns z))) = H9 at s9
      have hp9 : H9 p8 = some (.lst (wsV (lns z))) := by rw [← hH9, upd_same]
      have L9 := L8.same s9
      have hlnl : (lns z).length ≤ 1001 := by
        have := nls_le z
        rw [lns_len]
        omega
      obtain ⟨zl, hzl1, hzl2⟩ := lns_last z
      -- the end
      refine ⟨_, rfl, ?_⟩
      refine rd_nil ?_
      refine ⟨z, rfl, by omega, fun pe npe => ?_⟩
      have s10 : Same H9 (upd H9 pe (.tup [.int (lineOf z), .int (colOf z)])) := same_upd npe
      refine ⟨_, rfl, p8, wsV (lns z), rfl, .inl (SqL.of (s10 _ _ hp9)), ?_⟩
      have hlast : L2.atI (wsV (lns z)) (-1) = some (.str (S zl)) := by
        obtain ⟨pre, hpre⟩ : ∃ pre, lns z = pre ++ [zl] := List.getLast?_eq_some_iff.mp hzl1
        rw [hpre, ← wsV_snoc]
        exact atI_last _ _
      refine ⟨_, rfl, _, rfl, p8, wsV (lns z), -1, _, rfl, rfl, SqL.of (s10 _ _ hp9), hlast, ?_⟩
      have hzll : zl.length ≤ z.length := by
        rw [hzl2]
        exact tail10_le z
      refine ⟨S zl, rfl, small_le (by rw [S_len]; omega), _, _, rfl, rfl, (show 2 ≤ sizeLine by decide), fun pt npt => ?_⟩
      have s11 : Same (upd H9 pe (.tup [.int (lineOf z), .int (colOf z)])) (upd (upd H9 pe (.tup [.int (lineOf z), .int (colOf z)])) pt (.tup [.int (wsV (lns z)).length, .int ((S zl).length + 1)])) := same_upd npt
      have e1 : ((wsV (lns z)).length : Int) = lineOf z := by
        rw [wsV_len, lns_len]
        unfold lineOf
        omega
      have e2 : ((S zl).length : Int) + 1 = colOf z := by
        rw [S_len, hzl2]
        unfold colOf
        omega
      generalize hH11 : upd (upd H9 pe (.tup [.int (lineOf z), .int (colOf z)])) pt (.tup [.int (wsV (lns z)).length, .int ((S zl).length + 1)]) = H11 at s11
      have hpe : H11 pe = some (.tup [.int (lineOf z), .int (colOf z)]) := s11 _ _ upd_same
      have hpt : H11 pt = some (.tup [.int (lineOf z), .int (colOf z)]) := by
        rw [← hH11, upd_same, e1, e2]
      have dat : DpAll K H11 [.int (lineOf z), .int (colOf z)] [.int (lineOf z), .int (colOf z)] := .cons (.int _) (.cons (.int _) .nil)
      refine ⟨.ref pe, .ref pt, .tuple [.int (lineOf z), .int (colOf z)], rfl, .tup (SqT.of hpe) dat, .tup (SqT.of hpt) dat, ⟨(show 2 ≤ 1000000 by decide), fun x hx => ?_⟩, fun H12 s12 => ?_⟩
      · simp only [List.mem_cons, List.not_mem_nil, or_false] at hx
        rcases hx with rfl | rfl <;> exact trivial
      refine ⟨_, rfl, ?_⟩
      refine ite_false' rfl ?_
      have s912 : Same H9 H12 := (s10.trans s11).trans s12
      have L12 := L9.same s912
      have hp12 := s912 _ _ hp9
      refine ⟨_, rfl, !(wsV ws).isEmpty, .inl ⟨wsV ws, SqL.of L12.hb, rfl⟩, ite2 (fun hne => ?_) (fun _ => ite_false' rfl (q _))⟩
      have hwpos : 0 < ws.length := by
        cases ws with
        | nil => cases hne
        | cons x r => simp
      refine ⟨_, rfl, a, l, ns, 3, rfl, L12.st, by decide, by decide, fun H13 d3 sb13 hS13 _ _ => ?_⟩
      refine ⟨rfl, _, rfl, ite2 (fun _ => ?_) (fun _ => q _)⟩
      have L13 := L12.but sb13 hS13 hba hpa
      have hp8a : p8 ≠ a := fun e => by
        obtain ⟨c, k, h1, _⟩ := L8.st
        rw [← e, np8] at h1
        cases h1
      have hp13 := sb13 _ _ hp8a hp12
      -- which word
      refine ⟨_, rfl, _, rfl, b, wsV ws, rfl, .inl (SqL.of L13.hb), a, l, ns, _, rfl, L13.st, ?_, ?_, fun H14 k sb14 hS14 k0 k1 => ?_⟩
      · rw [wsV_len]; omega
      · rw [wsV_len]; omega
      rw [wsV_len] at k1
      obtain ⟨k, rfl⟩ := Int.eq_ofNat_of_zero_le k0
      have hk : k < ws.length := by omega
      have L14 := L13.but sb14 hS14 hba hpa
      have hp14 := sb14 _ _ hp8a hp13
      obtain ⟨⟨w1, g1⟩, hwg⟩ : ∃ wg, its[k]? = some wg := ⟨_, List.getElem?_eq_getElem (by rw [hil]; exact hk)⟩
      have hdk := dues_get its g0 k w1 g1 hwg
      have hwk : ws[k]? = some w1 := by rw [← hfst, List.getElem?_map, hwg]; rfl
      obtain ⟨hw1, hw6⟩ := hwok w1 (List.mem_of_getElem? hwk)
      have hwp : 0 < w1.length := by
        rcases hw1 with h | h
        · rcases h with h | h <;> (rw [h]; simp)
        · exact List.length_pos_iff.mpr h.1
      -- where in it
      refine ⟨_, rfl, _, rfl, _, rfl, rIxL_of (SqL.of L14.hb) rfl (wsV_get hwk) ?_⟩
      refine ⟨S w1, rfl, small_le (by rw [S_len]; omega), a, l, ns, _, rfl, L14.st, ?_, ?_, fun H15 i sb15 hS15 i0 i1 => ?_⟩
      · rw [S_len]; omega
      · rw [S_len]; omega
      rw [S_len] at i1
      obtain ⟨i, rfl⟩ := Int.eq_ofNat_of_zero_le i0
      have hi : i < w1.length := by omega
      have L15 := L14.but sb15 hS15 hba hpa
      have hp15 := sb15 _ _ hp8a hp14
      have hput := put_at (g0 := g0) (tl := tl) (its := its) (i := i) hwg
      have hinto := fun (x : Nat) (q : List Nat) (hx : bad x) => scan_into (q := q) og0 wf hwg hi hx
      have hzs : z.take ((g0 ++ flat (its.take k)).length + i) = g0 ++ flat (its.take k) ++ w1.take i := by
        rw [← hz, flat_split its k w1 g1 hwg]
        have e : g0 ++ (flat (its.take k) ++ (w1 ++ (g1 ++ flat (its.drop (k + 1)))) ++ tl) = (g0 ++ flat (its.take k)) ++ (w1 ++ (g1 ++ flat (its.drop (k + 1)) ++ tl)) := by simp [List.append_assoc]
        rw [e, List.take_length_add_append, List.take_append_of_le_length (by omega)]
      have hn1 : (g0 ++ flat (its.take k)).length + i ≤ z.length := by
        have := congrArg List.length hz
        rw [flat_split its k w1 g1 hwg] at this
        simp only [List.length_append] at this ⊢
        omega
      rw [hz] at hput
      generalize hpk : g0 ++ flat (its.take k) = pk at hdk hput hinto hzs hn1
      obtain ⟨r, hr1, hr2⟩ := L15.pl.2 k _ hdk
      -- the place
      refine ⟨_, rfl, ?_⟩
      refine ⟨_, rfl, _, rfl, rIxL_of (SqL.of L15.hp) rfl hr1 ?_⟩
      refine rd_tC ?_
      refine rIxT_of (i := 0) (j := 0) (SqT.of hr2) rfl rfl ?_
      refine ⟨_, _, rfl, rfl, ?_⟩
      refine ⟨_, rfl, ?_⟩
      refine ⟨p8, wsV (lns z), rfl, SqL.of hp15, fun ps nps => ?_⟩
      refine ⟨ps, rfl, ⟨_, SqL.of upd_same⟩, fun D2 hD2 => ?_⟩
      have hr2 : H15 r = some (.tup [.int (lineOf pk), .int (colOf pk)]) := hr2
      have elin : lineOf pk - 1 = ((lineOf pk - 1).toNat : Int) := by unfold lineOf; omega
      generalize (lineOf pk - 1).toNat = m at elin hput
      have ecut : cutV (wsV (lns z)) none (some ((w1, lineOf pk, colOf pk).snd.fst - 1)) = wsV ((lns z).take m) := by
        rw [← wsV_take]
        exact cutV_to _ elin
      rw [ecut] at hD2 ⊢
      have s16 : Same H15 (upd H15 ps (.lst (wsV ((lns z).take m)))) := same_upd nps
      generalize hH16 : upd H15 ps (.lst (wsV ((lns z).take m))) = H16 at s16 hD2
      have hps : H16 ps = some (.lst (wsV ((lns z).take m))) := by rw [← hH16, upd_same]
      generalize hls : (lns z).take m = ls at hput hps
      have hlsl : ls.length ≤ 1001 := by
        rw [← hls, List.length_take]
        omega
      have hlz : ∀ x ∈ ls, x.length ≤ 1000000 := by
        intro x hx
        rw [← hls] at hx
        have := lns_each z x (List.mem_of_mem_take hx)
        omega
      refine lcY_list (xs := wsV ls) (fun j H => Same H16 H ∧ H D2 = some (.lst (((ls.take j).map fun x => V.int ((x.length : Int) + 1))))) ⟨same_upd hD2, by rw [upd_same]; rfl⟩ (fun j H17 _ hP => SqL.of (hP.1 _ _ hps)) (fun j x H17 hx hP => ?_) (fun H17 hP => ?_)
      · obtain ⟨s17, hD17⟩ := hP
        obtain ⟨y, hy, rfl⟩ : ∃ y, ls[j]? = some y ∧ V.str (S y) = x := by
          unfold wsV at hx
          rw [List.getElem?_map] at hx
          cases e : ls[j]? with
          | none => rw [e] at hx; cases hx
          | some y => rw [e] at hx; exact ⟨y, rfl, Option.some.inj hx⟩
        refine ⟨rfl, ?_⟩
        refine ⟨_, rfl, S y, rfl, small_le (by rw [S_len]; exact hlz y (List.mem_of_getElem? hy)), _, _, rfl, rfl, ?_⟩
        have hj : j < ls.length := (List.getElem?_eq_some_iff.mp hy).1
        refine ⟨_, hD17, ?_, ?_, ?_⟩
        · rw [List.length_map, List.length_take]
          exact small_lt (by omega)
        · exact fun c o hc => by
            rw [upd_ne (ne_of_none hc hD2)]
            exact s17 _ _ hc
        · rw [upd_same, List.take_succ, hy, List.map_append]
          rfl
      obtain ⟨s17, hD17⟩ := hP
      rw [wsV_len, List.take_length] at hD17
      refine ⟨D2, ls.map fun x => (x.length : Int) + 1, rfl, SqL.of (by rw [hD17, List.map_map]; rfl), ?_⟩
      have L17 := L15.same (s16.trans s17)
      have hr17 : H17 r = some (.tup [.int (lineOf pk), .int (colOf pk)]) := s17 _ _ (s16 _ _ hr2)
      refine ⟨_, rfl, _, rfl, rIxL_of (SqL.of L17.hp) rfl hr1 ?_⟩
      refine rd_tC ?_
      refine rIxT_of (i := 1) (j := 1) (SqT.of hr17) rfl rfl ?_
      refine ⟨_, _, rfl, rfl, ?_⟩
      refine ⟨_, _, rfl, rfl, ?_⟩
      refine ⟨_, rfl, _, _, rfl, rfl, ?_⟩
      have hat : (ls.map fun x => (x.length : Int) + 1).sum + colOf pk - 1 + (i : Int) = ((pk.length + i : Nat) : Int) := hput
      generalize hn : pk.length + i = n at hat hzs hn1
      -- the new text
      refine ⟨_, rfl, ?_⟩
      refine ⟨_, rfl, _, rfl, ?_⟩
      refine ⟨S z, rfl, small_le (by rw [S_len]; omega), ?_⟩
      refine ⟨_, rfl, _, rfl, _, rfl, S strL, congrArg (fun x => [x]) str_is, by decide, a, l, ns, _, rfl, L17.st, ?_, ?_, fun H18 j sb18 hS18 j0 j1 => ?_⟩
      · rw [S_len]; decide
      · rw [S_len]; decide
      rw [S_len] at j1
      obtain ⟨j, rfl⟩ := Int.eq_ofNat_of_zero_le j0
      have hj : j < strL.length := by omega
      have L18 := L17.but sb18 hS18 hba hpa
      have hbad := str_bad _ (List.getElem_mem hj)
      generalize hx : strL[j] = x at hbad
      refine ⟨S strL, (j : Int), x, str_is, rfl, by decide, atI_nat (by rw [show (S strL).cps.toList = strL from rfl, List.getElem?_eq_getElem hj, hx]), ?_⟩
      rw [cutS_to z hat]
      have htl : (z.take n).length ≤ 1000 := by rw [List.length_take]; omega
      refine ⟨S (z.take n), S [x], rfl, rfl, small_le (by rw [S_len, S_len]; simp; omega), ?_⟩
      refine ⟨_, rfl, ?_⟩
      refine ⟨_, rfl, _, rfl, ?_⟩
      refine ⟨S z, rfl, small_le (by rw [S_len]; omega), ?_⟩
      rw [cutS_from z hat hn1]
      refine ⟨S (z.take n) ++ S [x], S (z.drop n), rfl, rfl, ?_, ?_⟩
      · rw [S_app]
        exact small_le (by rw [S_len, S_len]; simp; omega)
      rw [S_app, S_app]
      have hnew : z.take n ++ [x] ++ z.drop n = pk ++ w1.take i ++ x :: z.drop n := by
        rw [hzs]
        simp [List.append_assoc]
      rw [hnew]
      have hdl3 : (z.drop n).length ≤ 1000 := by rw [List.length_drop]; omega
      have hpl3 : (pk ++ w1.take i).length ≤ 1000 := by rw [← hzs]; exact htl
      have hr18 : H18 r = some (.tup [.int (lineOf pk), .int (colOf pk)]) := sb18 r _ (fun e => L17.st.notup _ (e ▸ hr17)) hr17
      refine ⟨fun σ' H' => ∃ (q : List Nat) (x10 : V), σ' = [some (.ref l0), some (.ref a), some (.ref b), some (.str (S z)), some (.ref p), some (.ref D), some (.ref p8), some (.str "!\"#$&',./:\x40[]^{|}~\\"), some (.int (k : Int)), some (.int (i : Int)), some x10, some (.str (S (pk ++ w1.take i ++ x :: q))), none] ∧ q.length ≤ 1002 ∧ LW a l b p ns ws rs (dues g0 its) H' ∧ H' r = some (.tup [.int (lineOf pk), .int (colOf pk)]), ?_, fun σ' H' hM => ?_⟩
      · refine ⟨_, rfl, a, l, ns, 2, rfl, L18.st, by decide, by decide, fun H19 d2 sb19 hS19 _ _ => ?_⟩
        have L19 := L18.but sb19 hS19 hba hpa
        have hr19 : H19 r = some (.tup [.int (lineOf pk), .int (colOf pk)]) := sb19 r _ (fun e => L18.st.notup _ (e ▸ hr18)) hr18
        refine ⟨rfl, _, rfl, ite2 (fun _ => ?_) (fun _ => ?_)⟩
        · have ebang : V.str "\n!" = .str (S [10, 33]) := by decide +kernel
          refine ⟨_, rfl, S (pk ++ w1.take i ++ x :: z.drop n), S [10, 33], rfl, ebang, small_le (by rw [S_len, S_len]; simp at hdl3 hpl3 ⊢; omega), ?_⟩
          rw [S_app]
          have e : pk ++ w1.take i ++ x :: z.drop n ++ [10, 33] = pk ++ w1.take i ++ x :: (z.drop n ++ [10, 33]) := by simp [List.append_assoc]
          rw [e]
          exact ⟨z.drop n ++ [10, 33], _, rfl, by simp at hdl3 ⊢; omega, L19, hr19⟩
        · exact ⟨z.drop n, _, rfl, by omega, L19, hr19⟩
      · obtain ⟨q2, x10, rfl, hq2, L19, hr19⟩ := hM
        refine ⟨_, rfl, ?_⟩
        refine ⟨_, rfl, _, rfl, rIxL_of (SqL.of L19.hp) rfl hr1 ?_⟩
        refine rd_tC ?_
        refine rIxT_of (i := 0) (j := 0) (SqT.of hr19) rfl rfl ?_
        refine ⟨_, rfl, _, rfl, rIxL_of (SqL.of L19.hp) rfl hr1 ?_⟩
        refine rd_tC ?_
        refine rIxT_of (i := 1) (j := 1) (SqT.of hr19) rfl rfl ?_
        refine ⟨_, rfl, _, _, rfl, rfl, ?_⟩
        refine ⟨(show 2 ≤ sizeLine by decide), fun pt npt => ?_⟩
        refine ⟨pk ++ w1.take i ++ x :: q2, pt, lineOf pk, colOf pk + (i : Int), rfl, ?_, SqT.of upd_same, ?_, fun H' _ => q H'⟩
        · simp at hpl3 ⊢
          omega
        · have e := hinto x (q2 ++ [10]) hbad
          have e2 : pk ++ w1.take i ++ x :: q2 ++ [10] = pk ++ w1.take i ++ x :: (q2 ++ [10]) := by simp [List.append_assoc]
          rw [e2]
          exact e
end
end Sure

namespace Sure
open PySem PySem.Spec PyProof.Rows L2
abbrev kids : List (Str × Stmt) := [("scan", s_scan), ("end_of", s_end_of), ("_law_stream", s__law_stream), ("_law_next", s__law_next), ("_law_is_integer", s__law_is_integer), ("_law_equal", s__law_equal), ("_law_gap", s__law_gap), ("_law_laid", s__law_laid), ("_law_words", s__law_words), ("_law_refused", s__law_refused), ("law", s_law)]
def fnsK : List He.DefD := dm "TextError" "__init__" "TextError.__init__" s_TextError_init :: kids.map fun p => dd p.1 p.2
def faK : List He.Fa := [.glo "TextError", .noat "TextError" "line", .noat "TextError" "column", .noat "TextError" "words", .exm "TextError" "TextError" true, .str "BLANKS" " \n\t", .str "WORDS" "abcdefghijklmnopqrstuvwxyzABCDEFGHIJKLMNOPQRSTUVWXYZ0123456789_?-+*<>="] ++
  (["len", "abs", "int", "bool", "str", "tuple", "list", "isinstance", "all", "sum", "range", "enumerate"] : List Str).map He.Fa.free ++ (kids.map fun p => He.Fa.glo p.1)
def exK (K : PySem.W.Frag) : Bool := oexB K (He.ga K "TextError") && (xfB K (He.ga K "TextError") && (decide (PySem.W.findIn K (.ref (He.ga K "TextError")) "__init__" = some (some (.ref (He.ma K (He.ga K "TextError") "__init__")))) &&
  decide (PySem.W.typeIn K (.ref (He.ma K (He.ga K "TextError") "__init__")) = some (.type "function"))))
abbrev rowK : PySem.W.OpenRow := PySem.W.OpenLaw.row PySem.Challenge.rw_sureplan_k85_tokens_and_places
abbrev hkK : PySem.W.Hook := He.hookX 5 faK fnsK [] [] exK
def obK (s : PySem.W.SharedT) : He.AlX := He.obsX 5 faK fnsK [] [] exK (HandSHeadRun.getT s)
theorem obK_eq (s : PySem.W.SharedT) : obK s = hkK.obs s.abs := He.obsX_eq (HandSHeadRun.getT_eq s)
def looseK : List PySem.Str := ["PlanError", "TextError", "BLANKS", "WORDS", "scan", "end_of", "_law_stream", "_law_next", "_law_is_integer", "_law_equal", "_law_gap", "_law_laid", "_law_words", "_law_refused"]
theorem runK (w : World) : HandSHeadRun.RunEq rowK (PySem.W.view rowK.prog [17]) hkK obK 1000 looseK w := by
  intro os
  kernel_rfl
end Sure

namespace Sure
open PySem PySem.Spec PyProof.Rows L2
theorem factsK {P : Program} {w : World} {K : PySem.W.Frag} {h hh : Heap} {mg : Str → Option Value} {f : Addr} (X : K.In h) (Gn : h.Ns mainGlobals mg) (hfa : mg ("law" : Str) = some (.ref f)) (c : He.SaysX faK fnsK [] [] exK w hh K) :
    ∃ fd : FuncData, (∀ (s : Shared) (v : Value), BindsTo s fd ⟨[v], []⟩ [("_law_script", v)]) ∧ ∀ base : Heap, K.In base → base.Ns mainGlobals mg → FnOk P w K mg base CX0 6 f fd ["_law_script"] (sp_law K) := by
  have C := c.t.d
  have free : ∀ {x : Str}, He.Fa.free x ∈ faK → mg x = none := fun hx => He.free_ok X Gn (C.facts hx)
  have glo : ∀ {x : Str}, He.Fa.glo x ∈ faK → mg x = some (.ref (He.ga K x)) := fun hx => He.glo_ok X Gn (C.facts hx)
  have G : GF K mg := by
    refine ⟨free ?_, free ?_, free ?_, free ?_, free ?_, free ?_, free ?_, free ?_, free ?_, free ?_, free ?_, free ?_, He.str_ok X Gn (C.facts (f := .str "BLANKS" " \n\t") ?_), He.str_ok X Gn (C.facts (f := .str "WORDS" "abcdefghijklmnopqrstuvwxyzABCDEFGHIJKLMNOPQRSTUVWXYZ0123456789_?-+*<>=") ?_)⟩ <;> simp [faK]
  have T : TeC K mg (He.ga K "TextError") (He.ma K (He.ga K "TextError") "__init__") := by
    obtain ⟨e1, e⟩ := Bool.and_eq_true_iff.mp c.more
    obtain ⟨e2, e⟩ := Bool.and_eq_true_iff.mp e
    obtain ⟨e3, e4⟩ := Bool.and_eq_true_iff.mp e
    refine ⟨glo ?_, oexB_ok e1, of_decide_eq_true e3, of_decide_eq_true e4, He.noat_ok (C.facts (f := .noat "TextError" "line") ?_), He.noat_ok (C.facts (f := .noat "TextError" "column") ?_), He.noat_ok (C.facts (f := .noat "TextError" "words") ?_), xfB_ok e2, He.exm_ok (C.facts (f := .exm "TextError" "TextError" true) ?_)⟩ <;> simp [faK]
  obtain ⟨fdI, FI⟩ := C.defs (d := dm "TextError" "__init__" "TextError.__init__" s_TextError_init) (by simp [fnsK])
  obtain ⟨fd1, F1⟩ := C.defs (d := dd "scan" s_scan) (by simp [fnsK])
  obtain ⟨fd2, F2⟩ := C.defs (d := dd "end_of" s_end_of) (by simp [fnsK])
  obtain ⟨fd3, F3⟩ := C.defs (d := dd "_law_stream" s__law_stream) (by simp [fnsK])
  obtain ⟨fd4, F4⟩ := C.defs (d := dd "_law_next" s__law_next) (by simp [fnsK])
  obtain ⟨fd5, F5⟩ := C.defs (d := dd "_law_is_integer" s__law_is_integer) (by simp [fnsK])
  obtain ⟨fd6, F6⟩ := C.defs (d := dd "_law_equal" s__law_equal) (by simp [fnsK])
  obtain ⟨fd7, F7⟩ := C.defs (d := dd "_law_gap" s__law_gap) (by simp [fnsK])
  obtain ⟨fd8, F8⟩ := C.defs (d := dd "_law_laid" s__law_laid) (by simp [fnsK])
  obtain ⟨fd9, F9⟩ := C.defs (d := dd "_law_words" s__law_words) (by simp [fnsK])
  obtain ⟨fd10, F10⟩ := C.defs (d := dd "_law_refused" s__law_refused) (by simp [fnsK])
  obtain ⟨fd11, F11⟩ := C.defs (d := dd "law" s_law) (by simp [fnsK])
  have bI : Binds K fdI ["self", "line", "column", "words"] [] := FunD.bindsN FI fun _ _ _ _ _ _ us hl => match us, hl with | [_, _, _, _], _ => rfl
  have b1 : Binds K fd1 ["text"] [] := FunD.bindsN F1 fun _ _ _ _ _ _ us hl => match us, hl with | [_], _ => rfl
  have b2 : Binds K fd2 ["text"] [] := FunD.bindsN F2 fun _ _ _ _ _ _ us hl => match us, hl with | [_], _ => rfl
  have b3 : Binds K fd3 ["_law_script"] [] := FunD.bindsN F3 fun _ _ _ _ _ _ us hl => match us, hl with | [_], _ => rfl
  have b4 : Binds K fd4 ["_law_stream_here", "_law_many"] [] := FunD.bindsN F4 fun _ _ _ _ _ _ us hl => match us, hl with | [_, _], _ => rfl
  have b5 : Binds K fd5 ["_law_actual"] [] := FunD.bindsN F5 fun _ _ _ _ _ _ us hl => match us, hl with | [_], _ => rfl
  have b6 : Binds K fd6 ["_law_actual", "_law_due"] [] := FunD.bindsN F6 fun _ _ _ _ _ _ us hl => match us, hl with | [_, _], _ => rfl
  have b7 : Binds K fd7 ["_law_stream_here", "_law_tight"] [] := FunD.bindsN F7 fun _ _ _ _ _ _ us hl => match us, hl with | [_, _], _ => rfl
  have b8 : Binds K fd8 ["_law_stream_here", "_law_words_here"] [] := FunD.bindsN F8 fun _ _ _ _ _ _ us hl => match us, hl with | [_, _], _ => rfl
  have b9 : Binds K fd9 ["_law_stream_here"] [] := FunD.bindsN F9 fun _ _ _ _ _ _ us hl => match us, hl with | [_], _ => rfl
  have b10 : Binds K fd10 ["_law_text", "_law_due"] [] := FunD.bindsN F10 fun _ _ _ _ _ _ us hl => match us, hl with | [_, _], _ => rfl
  have b11 := FunD.bindsA (ps := ["_law_script"]) F11 fun _ _ _ _ _ _ us hl => match us, hl with | [_], _ => rfl
  have g : ∀ {x : Str}, He.Fa.glo x ∈ faK → mg x = some (.ref (He.fAd K (x, none))) := fun hx => glo hx
  have ef : f = He.fAd K ("law", none) := by
    have e := hfa.symm.trans (g (x := "law") (by simp [faK]))
    exact Value.ref.inj (Option.some.inj e)
  subst ef
  refine ⟨fd11, fun s v => b11 s [v] rfl, fun base _ _ => ?_⟩
  have D3 : DefOk P w K mg base CX0 1 "_law_stream" ["_law_script"] (sp_stream K) := ⟨_, fd3, ok_stream (fun_of F3) G, g (by simp [faK]), F3.kp, b3⟩
  have D4 : DefOk P w K mg base CX0 1 "_law_next" ["_law_stream_here", "_law_many"] (sp_next K) := ⟨_, fd4, ok_next (fun_of F4) G, g (by simp [faK]), F4.kp, b4⟩
  have D5 : DefOk P w K mg base CX0 1 "_law_is_integer" ["_law_actual"] (sp_isint K) := ⟨_, fd5, ok_isint (fun_of F5) G, g (by simp [faK]), F5.kp, b5⟩
  have D5H : DefH P w K mg base CX0 1 "_law_is_integer" ["_law_actual"] (sp_isint K) := ⟨_, fd5, ok_isintH (fun_of F5) G, g (by simp [faK]), F5.kp, b5⟩
  have D6 : DefOk P w K mg base CX0 5 "_law_equal" ["_law_actual", "_law_due"] (spE K 3) := ⟨_, fd6, ok_equal (fun_of F6) G b6 (g (by simp [faK])) D5 3, g (by simp [faK]), F6.kp, b6⟩
  have D6H : DefH P w K mg base CX0 4 "_law_equal" ["_law_actual", "_law_due"] (spE K 2) := ⟨_, fd6, ok_equalH (fun_of F6) G b6 (g (by simp [faK])) D5H 2, g (by simp [faK]), F6.kp, b6⟩
  have D7 : DefOk P w K mg base CX0 2 "_law_gap" ["_law_stream_here", "_law_tight"] (sp_gap K) := ⟨_, fd7, ok_gap (fun_of F7) G D4, g (by simp [faK]), F7.kp, b7⟩
  have D8 : DefOk P w K mg base CX0 3 "_law_laid" ["_law_stream_here", "_law_words_here"] (sp_laid K) := ⟨_, fd8, ok_laid (fun_of F8) G D4 D7, g (by simp [faK]), F8.kp, b8⟩
  have D9 : DefOk P w K mg base CX0 2 "_law_words" ["_law_stream_here"] (sp_words K) := ⟨_, fd9, ok_words (fun_of F9) G D4, g (by simp [faK]), F9.kp, b9⟩
  have D1 : DefOk P w K mg base (L2N.CX P w) 3 "scan" ["text"] (sp_scan K (He.ga K "TextError")) := ⟨_, fd1, ok_scan (fun_of F1) G T (ok_te (fun_of FI) T) bI, g (by simp [faK]), F1.kp, b1⟩
  have D2 : DefOk P w K mg base CX0 1 "end_of" ["text"] (sp_end K) := ⟨_, fd2, ok_end (fun_of F2) G, g (by simp [faK]), F2.kp, b2⟩
  have D10 : DefOk P w K mg base CX0 5 "_law_refused" ["_law_text", "_law_due"] (sp_refused K) := ⟨_, fd10, ok_refused (fun_of F10) G T D1 D6H, g (by simp [faK]), F10.kp, b10⟩
  exact ok_law (fun_of F11) G D3 D4 D9 D8 D6 D1 D2 D10
end Sure
open PySem PySem.W PySem.Calls PyProof.Rows
theorem PySem.Challenge.cw_sureplan_k85_tokens_and_places_holds : PySem.Challenge.rw_sureplan_k85_tokens_and_places.Holds := by
  w_on; o_law
  refine HandSHeadRun.head_any (r := OpenLaw.row PySem.Challenge.rw_sureplan_k85_tokens_and_places) (q := view (OpenLaw.row PySem.Challenge.rw_sureplan_k85_tokens_and_places).prog [17]) (H := Sure.hkK) (ob := Sure.obK) (M := 1000) (loose := Sure.looseK) (d := HandSHeadRun.topDef (OpenLaw.row PySem.Challenge.rw_sureplan_k85_tokens_and_places).prog 17) (kwd := []) Sure.obK_eq
    (by kernel_rfl) (fun s => by kernel_rfl) Sure.runK (by kernel_rfl) (by kernel_rfl) (by kernel_rfl) (by rfl) (by first | assumption | decide +kernel) (by decide +kernel) ⟨rfl, rfl, rfl, rfl, rfl, by decide +kernel⟩ ?hw ?hc
  case hw => w_witness2
  case hc =>
    refine L2.walk_ofE (l := PySem.Challenge.rw_sureplan_k85_tokens_and_places) (n := 63) (k := 6) (x := "_law_script") (CX := L2.CX0) rfl (by decide) (by kernel_rfl) ⟨rfl, by decide, by decide⟩ ?F (fun _ _ _ _ z => z)
    intro w mg fa h Y G hmg0
    obtain ⟨K, KX, c⟩ := Y
    have hmg : mg ("law" : PySem.Str) = some (.ref fa) := by
      have e : (HandSHeadRun.topDef (OpenLaw.row PySem.Challenge.rw_sureplan_k85_tokens_and_places).prog 17).name = ("law" : PySem.Str) := by kernel_rfl
      rw [← e]
      exact hmg0
    obtain ⟨fd, hb, hF⟩ := Sure.factsK (P := (PySem.Challenge.rw_sureplan_k85_tokens_and_places).prog) (w := w) KX G hmg c
    exact ⟨K, fd, Sure.sp_law K, KX, hb, fun H a ns hl _ hS => ⟨a, ns, rfl, hS, fun _ => rfl⟩, hF⟩
