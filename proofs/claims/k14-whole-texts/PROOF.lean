import PyProof.Rows.All
import Wide.All
import OpenK.AllK
import Wide.FinOn
import PySem.Challenge.RW_holestore_k14_whole_texts
import HandS.ForMost
import HandS.Codes
import HandS.AnyAll
import HandS.ExcInit
import HandS.ExcOwn
import HandS.ExcField
import HandS.IsInst
import HandS.TupLe
import HandS.TupAny
import HandS.TupSets
import HandS.Lambda
import HandS.RaiseMore
import HandS.Conv
import HandS.More
import HandS.Style
import HandS.Flow
import HandS.EndTab
import HandS.WordsExc
import HandS.Walk
import KE.GoesEnum
import HandS.Zip
import KE.DataFind
import KE.KDflt
import KE.KStateDown
import KE.KNestM
import HandS.Head0
import HandS.Head1
import HandS.Head2
import HandS.HeadEnd
import HandS.HeadHook1
import HandS.HeadHook2
set_option Elab.async false
set_option linter.all false
set_option maxRecDepth 100000
/-! The program's text by places: each def's statement, its names. Printed by gen.py. -/
namespace HK
open PySem PySem.Spec PyProof.Rows L2
def topS (i : Nat) : Stmt := PySem.Challenge.pw_holestore_k14_whole_texts.main.body.getD i (.Pass ⟨0, 0, 0, 0⟩)
abbrev s_is_number : Stmt := topS 11
abbrev n_is_number : List Str := ["value", "low", "high"]
abbrev p_is_number : List Str := ["value", "low", "high"]
theorem sc_is_number : FnScope n_is_number p_is_number (defScope s_is_number) := ⟨rfl, rfl, rfl, by decide +kernel, rfl, by decide +kernel, by decide +kernel⟩
abbrev s_are_ties : Stmt := topS 12
abbrev n_are_ties : List Str := ["places", "value", "tie"]
abbrev p_are_ties : List Str := ["places", "value"]
theorem sc_are_ties : FnScope n_are_ties p_are_ties (defScope s_are_ties) := ⟨rfl, rfl, rfl, by decide +kernel, rfl, by decide +kernel, by decide +kernel⟩
abbrev s_need_yard : Stmt := topS 13
abbrev n_need_yard : List Str := ["value", "places", "ties", "gate"]
abbrev p_need_yard : List Str := ["value"]
theorem sc_need_yard : FnScope n_need_yard p_need_yard (defScope s_need_yard) := ⟨rfl, rfl, rfl, by decide +kernel, rfl, by decide +kernel, by decide +kernel⟩
abbrev s_near : Stmt := topS 14
abbrev n_near : List Str := ["ties", "place", "found", "one", "other"]
abbrev p_near : List Str := ["ties", "place"]
theorem sc_near : FnScope n_near p_near (defScope s_near) := ⟨rfl, rfl, rfl, by decide +kernel, rfl, by decide +kernel, by decide +kernel⟩
abbrev s_hanging : Stmt := topS 15
abbrev n_hanging : List Str := ["places", "ties", "place", "without", "found", "layer", "later", "one", "other"]
abbrev p_hanging : List Str := ["places", "ties", "place", "without"]
theorem sc_hanging : FnScope n_hanging p_hanging (defScope s_hanging) := ⟨rfl, rfl, rfl, by decide +kernel, rfl, by decide +kernel, by decide +kernel⟩
abbrev s_need_standing : Stmt := topS 17
abbrev n_need_standing : List Str := ["yard", "value", "books", "one"]
abbrev p_need_standing : List Str := ["yard", "value"]
theorem sc_need_standing : FnScope n_need_standing p_need_standing (defScope s_need_standing) := ⟨rfl, rfl, rfl, by decide +kernel, rfl, by decide +kernel, by decide +kernel⟩
abbrev s_is_instruction : Stmt := topS 22
abbrev n_is_instruction : List Str := ["value", "books", "many", "places"]
abbrev p_is_instruction : List Str := ["value", "books", "many", "places"]
theorem sc_is_instruction : FnScope n_is_instruction p_is_instruction (defScope s_is_instruction) := ⟨rfl, rfl, rfl, by decide +kernel, rfl, by decide +kernel, by decide +kernel⟩
abbrev s_need_rows : Stmt := topS 23
abbrev n_need_rows : List Str := ["value", "books", "most", "places", "index", "instruction"]
abbrev p_need_rows : List Str := ["value", "books", "most", "places"]
theorem sc_need_rows : FnScope n_need_rows p_need_rows (defScope s_need_rows) := ⟨rfl, rfl, rfl, by decide +kernel, rfl, by decide +kernel, by decide +kernel⟩
abbrev s_need_number : Stmt := topS 25
abbrev n_need_number : List Str := ["value", "low", "high"]
abbrev p_need_number : List Str := ["value", "low", "high"]
theorem sc_need_number : FnScope n_need_number p_need_number (defScope s_need_number) := ⟨rfl, rfl, rfl, by decide +kernel, rfl, by decide +kernel, by decide +kernel⟩
abbrev s_words_in : Stmt := topS 28
abbrev n_words_in : List Str := ["line", "word"]
abbrev p_words_in : List Str := ["line"]
theorem sc_words_in : FnScope n_words_in p_words_in (defScope s_words_in) := ⟨rfl, rfl, rfl, by decide +kernel, rfl, by decide +kernel, by decide +kernel⟩
abbrev s_whole_in : Stmt := topS 29
abbrev n_whole_in : List Str := ["word", "low", "high", "plain", "number"]
abbrev p_whole_in : List Str := ["word", "low", "high"]
theorem sc_whole_in : FnScope n_whole_in p_whole_in (defScope s_whole_in) := ⟨rfl, rfl, rfl, by decide +kernel, rfl, by decide +kernel, by decide +kernel⟩
abbrev s_need_text : Stmt := topS 30
abbrev n_need_text : List Str := ["value"]
abbrev p_need_text : List Str := ["value"]
theorem sc_need_text : FnScope n_need_text p_need_text (defScope s_need_text) := ⟨rfl, rfl, rfl, by decide +kernel, rfl, by decide +kernel, by decide +kernel⟩
abbrev s_lines_in : Stmt := topS 31
abbrev n_lines_in : List Str := ["text", "lines", "at", "line"]
abbrev p_lines_in : List Str := ["text"]
theorem sc_lines_in : FnScope n_lines_in p_lines_in (defScope s_lines_in) := ⟨rfl, rfl, rfl, by decide +kernel, rfl, by decide +kernel, by decide +kernel⟩
abbrev s_taken : Stmt := topS 32
abbrev n_taken : List Str := ["words", "place", "low", "high", "at", "found"]
abbrev p_taken : List Str := ["words", "place", "low", "high", "at"]
theorem sc_taken : FnScope n_taken p_taken (defScope s_taken) := ⟨rfl, rfl, rfl, by decide +kernel, rfl, by decide +kernel, by decide +kernel⟩
abbrev s_need_end : Stmt := topS 33
abbrev n_need_end : List Str := ["words", "many", "at"]
abbrev p_need_end : List Str := ["words", "many", "at"]
theorem sc_need_end : FnScope n_need_end p_need_end (defScope s_need_end) := ⟨rfl, rfl, rfl, by decide +kernel, rfl, by decide +kernel, by decide +kernel⟩
abbrev s_write_yard : Stmt := topS 34
abbrev n_write_yard : List Str := ["yard", "rows", "one", "other"]
abbrev p_write_yard : List Str := ["yard"]
theorem sc_write_yard : FnScope n_write_yard p_write_yard (defScope s_write_yard) := ⟨rfl, rfl, rfl, by decide +kernel, rfl, by decide +kernel, by decide +kernel⟩
abbrev s_number_line : Stmt := topS 35
abbrev n_number_line : List Str := ["lines", "end", "word", "low", "high", "words", "at", "found"]
abbrev p_number_line : List Str := ["lines", "end", "word", "low", "high"]
theorem sc_number_line : FnScope n_number_line p_number_line (defScope s_number_line) := ⟨rfl, rfl, rfl, by decide +kernel, rfl, by decide +kernel, by decide +kernel⟩
abbrev s_read_yard : Stmt := topS 36
abbrev n_read_yard : List Str := ["text", "lines", "end", "ties", "places", "words", "at", "one", "other", "begin", "gate"]
abbrev p_read_yard : List Str := ["text"]
theorem sc_read_yard : FnScope n_read_yard p_read_yard (defScope s_read_yard) := ⟨rfl, rfl, rfl, by decide +kernel, rfl, by decide +kernel, by decide +kernel⟩
abbrev s_standing_text : Stmt := topS 37
abbrev n_standing_text : List Str := ["standing", "book"]
abbrev p_standing_text : List Str := ["standing"]
theorem sc_standing_text : FnScope n_standing_text p_standing_text (defScope s_standing_text) := ⟨rfl, rfl, rfl, by decide +kernel, rfl, by decide +kernel, by decide +kernel⟩
abbrev s_write_standing : Stmt := topS 38
abbrev n_write_standing : List Str := ["yard", "standing"]
abbrev p_write_standing : List Str := ["yard", "standing"]
theorem sc_write_standing : FnScope n_write_standing p_write_standing (defScope s_write_standing) := ⟨rfl, rfl, rfl, by decide +kernel, rfl, by decide +kernel, by decide +kernel⟩
abbrev s_read_standing : Stmt := topS 39
abbrev n_read_standing : List Str := ["yard", "text", "words", "found", "place", "word", "book", "books", "wrong"]
abbrev p_read_standing : List Str := ["yard", "text"]
theorem sc_read_standing : FnScope n_read_standing p_read_standing (defScope s_read_standing) := ⟨rfl, rfl, rfl, by decide +kernel, rfl, by decide +kernel, by decide +kernel⟩
abbrev s_write_program : Stmt := topS 40
abbrev n_write_program : List Str := ["books", "program", "instruction", "part"]
abbrev p_write_program : List Str := ["books", "program"]
theorem sc_write_program : FnScope n_write_program p_write_program (defScope s_write_program) := ⟨rfl, rfl, rfl, by decide +kernel, rfl, by decide +kernel, by decide +kernel⟩
abbrev s_instruction_in : Stmt := topS 41
abbrev n_instruction_in : List Str := ["words", "books", "at", "word", "found", "number"]
abbrev p_instruction_in : List Str := ["words", "books", "at"]
theorem sc_instruction_in : FnScope n_instruction_in p_instruction_in (defScope s_instruction_in) := ⟨rfl, rfl, rfl, by decide +kernel, rfl, by decide +kernel, by decide +kernel⟩
abbrev s_read_program : Stmt := topS 42
abbrev n_read_program : List Str := ["books", "text", "lines", "found", "instruction", "line", "words", "at"]
abbrev p_read_program : List Str := ["books", "text"]
theorem sc_read_program : FnScope n_read_program p_read_program (defScope s_read_program) := ⟨rfl, rfl, rfl, by decide +kernel, rfl, by decide +kernel, by decide +kernel⟩
abbrev s_law_taken : Stmt := topS 44
abbrev n_law_taken : List Str := ["_law_row", "_law_many", "_law_found", "_law_cell"]
abbrev p_law_taken : List Str := ["_law_row", "_law_many"]
theorem sc_law_taken : FnScope n_law_taken p_law_taken (defScope s_law_taken) := ⟨rfl, rfl, rfl, by decide +kernel, rfl, by decide +kernel, by decide +kernel⟩
abbrev s_law_pick : Stmt := topS 45
abbrev n_law_pick : List Str := ["_law_row", "_law_things"]
abbrev p_law_pick : List Str := ["_law_row", "_law_things"]
theorem sc_law_pick : FnScope n_law_pick p_law_pick (defScope s_law_pick) := ⟨rfl, rfl, rfl, by decide +kernel, rfl, by decide +kernel, by decide +kernel⟩
abbrev s_law_alike : Stmt := topS 46
abbrev n_law_alike : List Str := ["_law_found", "_law_due", "_law_k"]
abbrev p_law_alike : List Str := ["_law_found", "_law_due"]
theorem sc_law_alike : FnScope n_law_alike p_law_alike (defScope s_law_alike) := ⟨rfl, rfl, rfl, by decide +kernel, rfl, by decide +kernel, by decide +kernel⟩
abbrev s_law_yard : Stmt := topS 47
abbrev n_law_yard : List Str := ["_law_row", "_law_most", "_law_places", "_law_ties", "_law_pairs", "_law_one", "_law_way", "_law_turn", "_law_place", "_law_other"]
abbrev p_law_yard : List Str := ["_law_row", "_law_most"]
theorem sc_law_yard : FnScope n_law_yard p_law_yard (defScope s_law_yard) := ⟨rfl, rfl, rfl, by decide +kernel, rfl, by decide +kernel, by decide +kernel⟩
abbrev s_law_standing : Stmt := topS 48
abbrev n_law_standing : List Str := ["_law_row", "_law_places", "_law_holes", "_law_left", "_law_found", "_law_place"]
abbrev p_law_standing : List Str := ["_law_row", "_law_places", "_law_holes"]
theorem sc_law_standing : FnScope n_law_standing p_law_standing (defScope s_law_standing) := ⟨rfl, rfl, rfl, by decide +kernel, rfl, by decide +kernel, by decide +kernel⟩
abbrev s_law_program : Stmt := topS 49
abbrev n_law_program : List Str := ["_law_row", "_law_books", "_law_most", "_law_size", "_law_found", "_law_turn", "_law_way"]
abbrev p_law_program : List Str := ["_law_row", "_law_books", "_law_most"]
theorem sc_law_program : FnScope n_law_program p_law_program (defScope s_law_program) := ⟨rfl, rfl, rfl, by decide +kernel, rfl, by decide +kernel, by decide +kernel⟩
abbrev s_law_kept : Stmt := topS 50
abbrev n_law_kept : List Str := ["_law_row", "_law_program_here", "_law_places", "_law_found", "_law_spots", "_law_one", "_law_turn"]
abbrev p_law_kept : List Str := ["_law_row", "_law_program_here", "_law_places"]
theorem sc_law_kept : FnScope n_law_kept p_law_kept (defScope s_law_kept) := ⟨rfl, rfl, rfl, by decide +kernel, rfl, by decide +kernel, by decide +kernel⟩
abbrev s_law_said_session : Stmt := topS 51
abbrev n_law_said_session : List Str := ["_law_work", "e"]
abbrev p_law_said_session : List Str := ["_law_work"]
theorem sc_law_said_session : FnScope n_law_said_session p_law_said_session (defScope s_law_said_session) := ⟨rfl, rfl, rfl, by decide +kernel, rfl, by decide +kernel, by decide +kernel⟩
abbrev s_law_loose : Stmt := topS 52
abbrev n_law_loose : List Str := ["_law_row", "_law_text", "_law_found", "_law_line_here"]
abbrev p_law_loose : List Str := ["_law_row", "_law_text"]
theorem sc_law_loose : FnScope n_law_loose p_law_loose (defScope s_law_loose) := ⟨rfl, rfl, rfl, by decide +kernel, rfl, by decide +kernel, by decide +kernel⟩
abbrev s_law_bent : Stmt := topS 53
abbrev n_law_bent : List Str := ["_law_row", "_law_text", "_law_words", "_law_rows", "_law_at", "_law_parts", "_law_place"]
abbrev p_law_bent : List Str := ["_law_row", "_law_text", "_law_words"]
theorem sc_law_bent : FnScope n_law_bent p_law_bent (defScope s_law_bent) := ⟨rfl, rfl, rfl, by decide +kernel, rfl, by decide +kernel, by decide +kernel⟩
abbrev s_law_line : Stmt := topS 54
abbrev n_law_line : List Str := ["_law_row", "_law_standing_here", "_law_words", "_law_book"]
abbrev p_law_line : List Str := ["_law_row", "_law_standing_here"]
theorem sc_law_line : FnScope n_law_line p_law_line (defScope s_law_line) := ⟨rfl, rfl, rfl, by decide +kernel, rfl, by decide +kernel, by decide +kernel⟩
abbrev s_law : Stmt := topS 55
abbrev n_law : List Str := ["_law_script", "_law_row", "_law_yard_here", "_law_places", "_law_ties", "_law_gate", "_law_lines", "_law_text", "_law_bent_here", "_law_at", "_law_place", "_law_told", "_law_start", "_law_cases", "_law_case", "_law_due", "_law_standing_here", "_law_loose_here", "_law_plain", "_law_four", "_law_books", "_law_rows", "_law_one", "_law_other", "_law_part"]
abbrev p_law : List Str := ["_law_script"]
theorem sc_law : FnScope n_law p_law (defScope s_law) := ⟨rfl, rfl, rfl, by decide +kernel, rfl, by decide +kernel, by decide +kernel⟩
end HK
set_option Elab.async false
set_option linter.all false
set_option maxRecDepth 100000
/-! The plain law, part A: words, lines, numbers as lists of codes. No program in sight. -/
namespace HK
open PySem SX
/-! ### splitting at one sign -/
theorem pre_one (s c : Nat) (r : List Nat) : TL.pre [s] (c :: r) = (c == s) := by
  unfold TL.pre
  simp
/-- a text cut at one sign, told plainly -/
def cutAt (s : Nat) : List Nat → List (List Nat)
  | [] => [[]]
  | c :: r => if c = s then [] :: cutAt s r else match cutAt s r with
    | [] => [[c]]
    | p :: q => (c :: p) :: q
theorem cutAt_cons (s c : Nat) (r : List Nat) : cutAt s (c :: r) = if c = s then [] :: cutAt s r else match cutAt s r with
    | [] => [[c]]
    | p :: q => (c :: p) :: q := rfl
theorem cutAt_hit {s c : Nat} {r : List Nat} (h : c = s) : cutAt s (c :: r) = [] :: cutAt s r := by rw [cutAt_cons, if_pos h]
theorem cutAt_miss {s c : Nat} {r p : List Nat} {q : List (List Nat)} (h : c ≠ s) (e : cutAt s r = p :: q) : cutAt s (c :: r) = (c :: p) :: q := by rw [cutAt_cons, if_neg h, e]
theorem cutAt_ne (s : Nat) : ∀ l, cutAt s l ≠ []
  | [] => by simp [cutAt]
  | c :: r => by
    unfold cutAt
    split
    · simp
    · split <;> simp
theorem spl_cut (s : Nat) : ∀ (l acc : List Nat), TL.spl [s] 0 acc l = match cutAt s l with
    | [] => [acc]
    | p :: q => (acc ++ p) :: q
  | [], acc => by simp [TL.spl_nil, cutAt]
  | c :: r, acc => by
    by_cases h : c = s
    · rw [TL.spl_hit (by rw [pre_one]; simp [h])]
      have ih := spl_cut s r []
      simp only [List.length_cons, List.length_nil, Nat.zero_add, Nat.sub_self]
      rw [ih, cutAt_hit h]
      have := cutAt_ne s r
      cases e : cutAt s r with
      | nil => exact absurd e this
      | cons p q => simp
    · rw [TL.spl_miss (by rw [pre_one]; simp [h]), spl_cut s r]
      have := cutAt_ne s r
      cases e : cutAt s r with
      | nil => exact absurd e this
      | cons p q =>
        rw [cutAt_miss h e]
        simp
theorem spl_cut0 (s : Nat) (l : List Nat) : TL.spl [s] 0 [] l = cutAt s l := by
  rw [spl_cut]
  have := cutAt_ne s l
  cases e : cutAt s l with
  | nil => exact absurd e this
  | cons p q => simp
theorem cutAt_free {s : Nat} : ∀ {l : List Nat}, s ∉ l → cutAt s l = [l]
  | [], _ => rfl
  | c :: r, h => by
    have h1 : c ≠ s := fun e => h (by simp [e])
    have h2 : s ∉ r := fun e => h (by simp [e])
    exact cutAt_miss h1 (cutAt_free h2)
theorem cutAt_app (s : Nat) : ∀ (p r : List Nat), cutAt s (p ++ s :: r) = cutAt s p ++ cutAt s r
  | [], r => by
    show cutAt s (s :: r) = [[]] ++ cutAt s r
    rw [cutAt_hit rfl]
    rfl
  | c :: p, r => by
    show cutAt s (c :: (p ++ s :: r)) = _
    by_cases h : c = s
    · rw [cutAt_hit h, cutAt_hit h, cutAt_app s p r]
      rfl
    · have := cutAt_ne s p
      cases e : cutAt s p with
      | nil => exact absurd e this
      | cons a b =>
        rw [cutAt_miss h e, cutAt_miss (p := a) (q := b ++ cutAt s r) h (by rw [cutAt_app s p r, e]; rfl)]
        rfl
theorem cutAt_length_le (s : Nat) : ∀ l : List Nat, (cutAt s l).length ≤ l.length + 1
  | [] => by simp [cutAt]
  | c :: r => by
    have ih := cutAt_length_le s r
    unfold cutAt
    split
    · simp; omega
    · cases e : cutAt s r with
      | nil => simp
      | cons a b => rw [e] at ih; simp at ih ⊢; omega
theorem cutAt_part (s : Nat) : ∀ (l p : List Nat), p ∈ cutAt s l → s ∉ p ∧ p.length ≤ l.length
  | [], p, h => by
    have : p = [] := by simpa [cutAt] using h
    subst this
    simp
  | c :: r, p, h => by
    unfold cutAt at h
    split at h
    · rcases List.mem_cons.mp h with e | h
      · subst e
        simp
      · have := cutAt_part s r p h
        exact ⟨this.1, by simp; omega⟩
    · rename_i hc
      cases e : cutAt s r with
      | nil => exact absurd e (cutAt_ne s r)
      | cons a b =>
        rw [e] at h
        rcases List.mem_cons.mp h with e2 | h
        · subst e2
          have := cutAt_part s r a (by rw [e]; simp)
          refine ⟨fun hm => ?_, by simp; omega⟩
          rcases List.mem_cons.mp hm with z | z
          · exact hc z.symm
          · exact this.1 z
        · have := cutAt_part s r p (by rw [e]; simp [h])
          exact ⟨this.1, by simp; omega⟩
/-! ### the words of a line -/
def wordsL (l : List Nat) : List (List Nat) := (cutAt 32 l).filter fun w => !w.isEmpty
theorem wordsL_nil : wordsL [] = [] := rfl
theorem wordsL_app (p r : List Nat) : wordsL (p ++ 32 :: r) = wordsL p ++ wordsL r := by
  unfold wordsL
  rw [cutAt_app, List.filter_append]
theorem wordsL_one {w : List Nat} (h : w ≠ []) (hs : 32 ∉ w) : wordsL w = [w] := by
  unfold wordsL
  rw [cutAt_free hs]
  cases w with
  | nil => exact absurd rfl h
  | cons a b => rfl
theorem wordsL_sp (r : List Nat) : wordsL (32 :: r) = wordsL r := by
  have := wordsL_app [] r
  simpa [wordsL_nil] using this
theorem wordsL_sps : ∀ (k : Nat) (r : List Nat), wordsL (List.replicate k 32 ++ r) = wordsL r
  | 0, r => rfl
  | k + 1, r => by
    rw [List.replicate_succ, List.cons_append, wordsL_sp, wordsL_sps k r]
theorem wordsL_spe : ∀ (k : Nat) (p : List Nat), wordsL (p ++ List.replicate k 32) = wordsL p
  | 0, p => by simp
  | k + 1, p => by
    rw [List.replicate_succ, wordsL_app]
    have := wordsL_sps k []
    rw [List.append_nil] at this
    rw [this, wordsL_nil, List.append_nil]
/-- a word: not empty, no space, no line's end -/
def Wd (w : List Nat) : Prop := w ≠ [] ∧ 32 ∉ w ∧ 10 ∉ w
/-- words joined by one or more spaces -/
theorem wordsL_join : ∀ (k : Nat) (ws : List (List Nat)), (∀ w ∈ ws, Wd w) → wordsL (TL.joinL (List.replicate (k + 1) 32) ws) = ws
  | k, [], _ => rfl
  | k, [w], h => wordsL_one (h w (by simp)).1 (h w (by simp)).2.1
  | k, w :: v :: r, h => by
    show wordsL (w ++ (List.replicate (k + 1) 32 ++ TL.joinL (List.replicate (k + 1) 32) (v :: r))) = _
    rw [List.replicate_succ, List.cons_append, wordsL_app, wordsL_sps, ← List.replicate_succ, wordsL_one (h w (by simp)).1 (h w (by simp)).2.1,
      wordsL_join k (v :: r) fun x hx => h x (List.mem_cons_of_mem _ hx)]
    rfl
theorem wordsL_part {l w : List Nat} (h : w ∈ wordsL l) : w ≠ [] ∧ 32 ∉ w ∧ w.length ≤ l.length := by
  have h1 := List.mem_filter.mp h
  have h2 := cutAt_part 32 l w h1.1
  refine ⟨fun e => ?_, h2.1, h2.2⟩
  rw [e] at h1
  simp at h1
theorem wordsL_length_le (l : List Nat) : (wordsL l).length ≤ l.length + 1 :=
  Nat.le_trans (List.length_filter_le _ _) (cutAt_length_le 32 l)
/-! ### the lines of a text that have words -/
abbrev Line := List (List Nat) × Int
def numbered : List (List Nat) → Int → List Line
  | [], _ => []
  | l :: r, k => if wordsL l = [] then numbered r (k + 1) else (wordsL l, k) :: numbered r (k + 1)
theorem numbered_cons (l : List Nat) (r : List (List Nat)) (k : Int) : numbered (l :: r) k = if wordsL l = [] then numbered r (k + 1) else (wordsL l, k) :: numbered r (k + 1) := rfl
def linesL (t : List Nat) : List Line := numbered (cutAt 10 t) 1
def finL (t : List Nat) : Int := ((cutAt 10 t).length : Int) + 1
theorem numbered_app : ∀ (a b : List (List Nat)) (k : Int), numbered (a ++ b) k = numbered a k ++ numbered b (k + (a.length : Int))
  | [], b, k => by simp [numbered]
  | l :: a, b, k => by
    have ih := numbered_app a b (k + 1)
    have e : k + ((l :: a).length : Int) = k + 1 + (a.length : Int) := by simp; omega
    rw [e]
    show numbered (l :: (a ++ b)) k = _
    rw [numbered_cons, numbered_cons, ih]
    split <;> rfl
theorem numbered_words : ∀ (a : List (List Nat)) (k : Int), (numbered a k).map (·.1) = (a.map wordsL).filter fun w => !w.isEmpty
  | [], k => rfl
  | l :: a, k => by
    have ih := numbered_words a (k + 1)
    rw [numbered_cons]
    by_cases h : wordsL l = []
    · rw [if_pos h, ih]
      simp [h]
    · rw [if_neg h]
      have h2 : (wordsL l).isEmpty = false := by
        cases e : wordsL l with
        | nil => exact absurd e h
        | cons x y => rfl
      simp [ih, h2]
theorem numbered_ne : ∀ (a : List (List Nat)) (k : Int) (x : Line), x ∈ numbered a k → x.1 ≠ []
  | [], k, x, h => by simp [numbered] at h
  | l :: a, k, x, h => by
    unfold numbered at h
    split at h
    · exact numbered_ne a (k + 1) x h
    · rcases List.mem_cons.mp h with e | h
      · subst e
        assumption
      · exact numbered_ne a (k + 1) x h
theorem linesL_ne {t : List Nat} {x : Line} (h : x ∈ linesL t) : x.1 ≠ [] := numbered_ne _ _ _ h
theorem numbered_length_le : ∀ (a : List (List Nat)) (k : Int), (numbered a k).length ≤ a.length
  | [], k => by simp [numbered]
  | l :: a, k => by
    have ih := numbered_length_le a (k + 1)
    unfold numbered
    split
    · simp; omega
    · simp; omega
/-- a row: words, one at least -/
def Rw (r : List (List Nat)) : Prop := r ≠ [] ∧ ∀ w ∈ r, Wd w
def rowL (r : List (List Nat)) : List Nat := TL.joinL [32] r
def textL (rows : List (List (List Nat))) : List Nat := TL.joinL [10] (rows.map rowL)
theorem joinL_free {s : Nat} {S : List Nat} (hs : s ∉ S) : ∀ {ws : List (List Nat)}, (∀ w ∈ ws, s ∉ w) → s ∉ TL.joinL S ws
  | [], _ => by simp [TL.joinL]
  | [w], h => by simpa [TL.joinL] using h w (by simp)
  | w :: v :: r, h => by
    have ih := joinL_free hs (ws := v :: r) fun x hx => h x (List.mem_cons_of_mem _ hx)
    show s ∉ w ++ (S ++ TL.joinL S (v :: r))
    simp only [List.mem_append, not_or]
    exact ⟨h w (by simp), hs, ih⟩
theorem rowL_free {r : List (List Nat)} (h : Rw r) : 10 ∉ rowL r := joinL_free (by decide) fun w hw => (h.2 w hw).2.2
theorem wordsL_row {r : List (List Nat)} (h : Rw r) : wordsL (rowL r) = r := wordsL_join 0 r h.2
/-- one line's text that tells the words r: r, with spaces -/
theorem cutAt_join {s : Nat} : ∀ {ls : List (List Nat)}, ls ≠ [] → (∀ l ∈ ls, s ∉ l) → cutAt s (TL.joinL [s] ls) = ls := fun {ls} hne h => by
  rw [← spl_cut0]
  exact TL.spl_join hne h
theorem numbered_rows : ∀ (rows : List (List (List Nat))) (k : Int), (∀ r ∈ rows, Rw r) → numbered (rows.map rowL) k = (rows.zipIdx).map fun p => (p.1, k + (p.2 : Int))
  | [], k, _ => rfl
  | r :: rows, k, h => by
    have hr := h r (by simp)
    have ih := numbered_rows rows (k + 1) fun x hx => h x (List.mem_cons_of_mem _ hx)
    show numbered (rowL r :: rows.map rowL) k = _
    rw [numbered_cons, wordsL_row hr, if_neg hr.1, ih]
    rw [List.zipIdx_cons, List.map_cons]
    congr 1
    · simp
    · rw [List.zipIdx_succ, List.map_map]
      refine List.map_congr_left fun p hp => ?_
      simp only [Function.comp]
      congr 1
      push_cast
      omega
theorem linesL_text {rows : List (List (List Nat))} (hne : rows ≠ []) (h : ∀ r ∈ rows, Rw r) : linesL (textL rows) = (rows.zipIdx).map fun p => (p.1, 1 + (p.2 : Int)) := by
  unfold linesL textL
  rw [cutAt_join (by simpa using hne) fun l hl => ?_]
  · exact numbered_rows rows 1 h
  · obtain ⟨r, hr, rfl⟩ := List.mem_map.mp hl
    exact rowL_free (h r hr)
/-! ### numbers -/
def intL (n : Int) : List Nat := if n < 0 then 45 :: TL.numL n.natAbs else TL.numL n.natAbs
def isFig (c : Nat) : Bool := decide (48 ≤ c) && decide (c ≤ 57)
def plainL (w : List Nat) : List Nat := if w.head? = some 45 then w.drop 1 else w
def wholeL (w : List Nat) (lo hi : Int) : Option Int :=
  if (plainL w).length < 1 ∨ 8 < (plainL w).length ∨ (plainL w).all isFig = false ∨ ((plainL w).head? = some 48 ∧ w ≠ [48]) then none
  else
    let v : Int := if w.head? = some 45 then -(NumText.digitsVal (plainL w) : Int) else (NumText.digitsVal (plainL w) : Int)
    if lo ≤ v ∧ v ≤ hi then some v else none
theorem all_fig {l : List Nat} : l.all isFig = true ↔ NumText.AllDigits l := by
  rw [List.all_eq_true]
  constructor
  · intro h c hc
    have := h c hc
    simpa [isFig] using this
  · intro h c hc
    have := h c hc
    simpa [isFig] using this
theorem numL_pos {n : Nat} (h : 0 < n) : ∃ c r, TL.numL n = c :: r ∧ 49 ≤ c := by
  induction n using Nat.strongRecOn with
  | ind n ih =>
    by_cases h10 : n < 10
    · rw [TL.numL_lt h10]
      exact ⟨48 + n, [], rfl, by omega⟩
    · rw [TL.numL_step (by omega)]
      obtain ⟨c, r, e, hc⟩ := ih (n / 10) (by omega) (by omega)
      rw [e]
      exact ⟨c, _, rfl, hc⟩
theorem numL_zero : TL.numL 0 = [48] := TL.numL_lt (by decide)
theorem numL_back {p : List Nat} (hd : NumText.AllDigits p) (hne : p ≠ []) (h : p.length = 1 ∨ ∃ c r, p = c :: r ∧ 49 ≤ c) : TL.numL (NumText.digitsVal p) = p := by
  unfold TL.numL
  have hl : p.length = (p.length - 1) + 1 := by
    cases p with
    | nil => exact absurd rfl hne
    | cons a b => simp
  rw [NumText.toDigits_digitsVal (p.length - 1) p hl hd (by
    rcases h with h | h
    · left; omega
    · right; exact h), List.map_map]
  have : ∀ l : List Nat, NumText.AllDigits l → l.map (Char.toNat ∘ Char.ofNat) = l := by
    intro l
    induction l with
    | nil => intro _; rfl
    | cons c l ih =>
      intro hl
      have hc := hl c (by simp)
      have e : (Char.ofNat c).toNat = c := by
        have : ∀ c, c ≤ 57 → 48 ≤ c → (Char.ofNat c).toNat = c := by decide
        exact this c hc.2 hc.1
      rw [List.map_cons, ih fun x hx => hl x (List.mem_cons_of_mem _ hx)]
      show (Char.ofNat c).toNat :: l = _
      rw [e]
  exact this p hd
theorem head_ne45 {p : List Nat} (hd : NumText.AllDigits p) : p.head? ≠ some 45 := by
  cases p with
  | nil => simp
  | cons c r =>
    have := hd c (by simp)
    simp
    omega
theorem whole_int {n lo hi : Int} (h1 : lo ≤ n) (h2 : n ≤ hi) (hb : n.natAbs < 100000000) : wholeL (intL n) lo hi = some n := by
  have hd := TL.numL_digits n.natAbs
  have hl : (TL.numL n.natAbs).length ≤ 8 := TL.numL_len (by decide) hb
  have hne := TL.numL_ne n.natAbs
  have hl1 : 1 ≤ (TL.numL n.natAbs).length := by
    cases e : TL.numL n.natAbs with
    | nil => exact absurd e hne
    | cons a b => simp
  have hv := TL.numL_val n.natAbs
  unfold wholeL intL
  by_cases hn : n < 0
  · rw [if_pos hn]
    have ep : plainL (45 :: TL.numL n.natAbs) = TL.numL n.natAbs := by simp [plainL]
    obtain ⟨c, r, ec, hc⟩ := numL_pos (n := n.natAbs) (by omega)
    rw [ep, if_neg]
    · simp only [List.head?_cons, if_true, hv]
      rw [if_pos (by omega)]
      congr 1
      omega
    · rw [not_or, not_or, not_or]
      refine ⟨by omega, by omega, by rw [all_fig.mpr hd]; simp, ?_⟩
      rw [ec]
      simp
      omega
  · rw [if_neg hn]
    have h45 := head_ne45 hd
    have ep : plainL (TL.numL n.natAbs) = TL.numL n.natAbs := by simp [plainL, h45]
    rw [ep, if_neg]
    · simp only [h45, if_false, hv]
      rw [if_pos (by omega)]
      congr 1
      omega
    · rw [not_or, not_or, not_or]
      refine ⟨by omega, by omega, by rw [all_fig.mpr hd]; simp, ?_⟩
      intro hx
      by_cases h0 : n.natAbs = 0
      · rw [h0, numL_zero] at hx
        exact hx.2 rfl
      · obtain ⟨c, r, ec, hc⟩ := numL_pos (n := n.natAbs) (by omega)
        rw [ec] at hx
        simp at hx
        omega
theorem whole_some {w : List Nat} {lo hi n : Int} (h : wholeL w lo hi = some n) : w = intL n ∧ lo ≤ n ∧ n ≤ hi ∧ n.natAbs < 100000000 := by
  unfold wholeL at h
  split at h
  · cases h
  · rename_i hc
    rw [not_or, not_or, not_or] at hc
    obtain ⟨c1, c2, c3, c4⟩ := hc
    have hd : NumText.AllDigits (plainL w) := all_fig.mp (by simpa using c3)
    have hne : plainL w ≠ [] := fun e => by rw [e] at c1; simp at c1
    have hbound : ∀ l : List Nat, NumText.AllDigits l → NumText.digitsVal l < 10 ^ l.length := by
      intro l
      have key : ∀ (l : List Nat) (a : Nat), NumText.AllDigits l → l.foldl (fun acc c => acc * 10 + (c - 48)) a < (a + 1) * 10 ^ l.length := by
        intro l
        induction l with
        | nil => intro a _; simp
        | cons c l ih =>
          intro a hl
          have h0 := hl c (by simp)
          have := ih (a * 10 + (c - 48)) fun x hx => hl x (List.mem_cons_of_mem _ hx)
          rw [List.foldl_cons, List.length_cons, Nat.pow_succ]
          refine Nat.lt_of_lt_of_le this ?_
          have h3 : a * 10 + (c - 48) + 1 ≤ (a + 1) * 10 := by omega
          calc (a * 10 + (c - 48) + 1) * 10 ^ l.length ≤ ((a + 1) * 10) * 10 ^ l.length := Nat.mul_le_mul_right _ h3
            _ = (a + 1) * (10 ^ l.length * 10) := by rw [Nat.mul_assoc, Nat.mul_comm 10]
      intro hl
      have := key l 0 hl
      simpa [NumText.digitsVal] using this
    have hlt : NumText.digitsVal (plainL w) < 100000000 := by
      refine Nat.lt_of_lt_of_le (hbound _ hd) ?_
      show 10 ^ (plainL w).length ≤ 10 ^ 8
      exact Nat.pow_le_pow_right (by decide) (by omega)
    generalize hv : (if w.head? = some 45 then -(NumText.digitsVal (plainL w) : Int) else (NumText.digitsVal (plainL w) : Int)) = v at h
    have h' : (if lo ≤ v ∧ v ≤ hi then some v else none) = some n := h
    by_cases hr : lo ≤ v ∧ v ≤ hi
    · rw [if_pos hr] at h'
      have e := Option.some.inj h'
      rw [e] at hv hr
      by_cases h45 : w.head? = some 45
      · rw [if_pos h45] at hv
        have ew : w = 45 :: plainL w := by
          cases w with
          | nil => simp at h45
          | cons a b =>
            simp at h45
            simp [plainL, h45]
        have w48 : w ≠ [48] := fun z => by rw [z] at h45; simp at h45
        have hh : ∃ c r, plainL w = c :: r ∧ 49 ≤ c := by
          cases ec : plainL w with
          | nil => exact absurd ec hne
          | cons c r =>
            refine ⟨c, r, rfl, ?_⟩
            have h48 : c ≠ 48 := fun z => c4 ⟨by rw [ec, z]; rfl, w48⟩
            have := hd c (by rw [ec]; simp)
            omega
        have hpos : 0 < NumText.digitsVal (plainL w) := by
          obtain ⟨c, r, ec, h49⟩ := hh
          rw [ec]
          exact NumText.digitsVal_pos h49
        refine ⟨?_, by omega, by omega, by omega⟩
        have en : n.natAbs = NumText.digitsVal (plainL w) := by omega
        unfold intL
        rw [if_pos (by omega), en, numL_back hd hne (Or.inr hh)]
        exact ew
      · rw [if_neg h45] at hv
        have ew : plainL w = w := by simp [plainL, h45]
        rw [ew] at hd hne c4 hlt hv
        have hh : w.length = 1 ∨ ∃ c r, w = c :: r ∧ 49 ≤ c := by
          cases ec : w with
          | nil => exact absurd ec hne
          | cons c r =>
            by_cases h48 : c = 48
            · left
              have : w = [48] := by
                by_cases hw : w = [48]
                · exact hw
                · exact absurd ⟨by rw [ec, h48]; rfl, hw⟩ c4
              rw [← ec, this]
              rfl
            · right
              have := hd c (by rw [ec]; simp)
              exact ⟨c, r, rfl, by omega⟩
        refine ⟨?_, by omega, by omega, by omega⟩
        have en : n.natAbs = NumText.digitsVal w := by omega
        unfold intL
        rw [if_neg (by omega), en, numL_back hd hne hh]
    · rw [if_neg hr] at h'
      cases h'
theorem intL_wd (n : Int) : Wd (intL n) := by
  unfold intL
  have h1 := TL.numL_ne n.natAbs
  have h2 : 32 ∉ TL.numL n.natAbs := TL.numL_free (Or.inl (by decide))
  have h3 : 10 ∉ TL.numL n.natAbs := TL.numL_free (Or.inl (by decide))
  split
  · refine ⟨by simp, ?_, ?_⟩
    · simp; exact h2
    · simp; exact h3
  · exact ⟨h1, h2, h3⟩
theorem intL_inj {a b : Int} (h : intL a = intL b) : a = b := by
  unfold intL at h
  have hd := fun n => head_ne45 (TL.numL_digits n)
  split at h <;> split at h
  · have := TL.numL_inj (List.cons.inj h).2
    omega
  · exact absurd (by rw [← h]; rfl) (hd b.natAbs)
  · exact absurd (by rw [h]; rfl) (hd a.natAbs)
  · have := TL.numL_inj h
    omega
theorem intL_len {n : Int} (h : n.natAbs < 100000000) : (intL n).length ≤ 9 := by
  have hl : (TL.numL n.natAbs).length ≤ 8 := TL.numL_len (by decide) h
  unfold intL
  split <;> simp <;> omega
end HK
set_option Elab.async false
set_option linter.all false
set_option maxRecDepth 100000
/-! The plain law, part B: what the readers answer, over lines of words. -/
namespace HK
open PySem SX
abbrev Res (α : Type) := Except (Int × Int) α
abbrev kPlaces : List Nat := [112, 108, 97, 99, 101, 115]
abbrev kTie : List Nat := [116, 105, 101]
abbrev kGate : List Nat := [103, 97, 116, 101]
abbrev kGet : List Nat := [103, 101, 116]
abbrev kPlus : List Nat := [112, 108, 117, 115]
abbrev kMinus : List Nat := [109, 105, 110, 117, 115]
abbrev kSet : List Nat := [115, 101, 116]
abbrev kPut : List Nat := [112, 117, 116]
abbrev kSay : List Nat := [115, 97, 121]
abbrev kAsk : List Nat := [97, 115, 107]
abbrev kStop : List Nat := [115, 116, 111, 112]
abbrev kZero : List Nat := [122, 101, 114, 111]
abbrev kGo : List Nat := [103, 111]
abbrev kSlide : List Nat := [115, 108, 105, 100, 101]
def takenL (ws : List (List Nat)) (k : Nat) (lo hi at_ : Int) : Res Int :=
  match (ws[k]?).bind fun w => wholeL w lo hi with
  | some n => .ok n
  | none => .error (at_, (k : Int) + 1)
def endL (ws : List (List Nat)) (many : Nat) (at_ : Int) : Res Unit := if many < ws.length then .error (at_, (many : Int) + 1) else .ok ()
theorem taken_some {ws : List (List Nat)} {k : Nat} {lo hi at_ n : Int} (h : takenL ws k lo hi at_ = .ok n) : ws[k]? = some (intL n) ∧ lo ≤ n ∧ n ≤ hi := by
  unfold takenL at h
  cases e : ws[k]? with
  | none => rw [e] at h; simp at h
  | some w =>
    rw [e] at h
    simp only [Option.bind_some] at h
    cases e2 : wholeL w lo hi with
    | none => rw [e2] at h; simp at h
    | some m =>
      rw [e2] at h
      have := Except.ok.inj h
      subst this
      obtain ⟨a, b, c, _⟩ := whole_some e2
      exact ⟨by rw [a], b, c⟩
theorem taken_ok {ws : List (List Nat)} {k : Nat} {lo hi at_ n : Int} (h : ws[k]? = some (intL n)) (h1 : lo ≤ n) (h2 : n ≤ hi) (hb : n.natAbs < 100000000) : takenL ws k lo hi at_ = .ok n := by
  unfold takenL
  rw [h, Option.bind_some, whole_int h1 h2 hb]
theorem taken_err {ws : List (List Nat)} {k : Nat} {lo hi at_ : Int} {e : Int × Int} (h : takenL ws k lo hi at_ = .error e) : e = (at_, (k : Int) + 1) := by
  unfold takenL at h
  split at h
  · cases h
  · exact (Except.error.inj h).symm
theorem end_some {ws : List (List Nat)} {many : Nat} {at_ : Int} {u : Unit} (h : endL ws many at_ = .ok u) : ws.length ≤ many := by
  unfold endL at h
  split at h
  · cases h
  · omega
theorem end_ok {ws : List (List Nat)} {many : Nat} {at_ : Int} (h : ws.length ≤ many) : endL ws many at_ = .ok () := by
  unfold endL
  rw [if_neg (by omega)]
theorem end_err {ws : List (List Nat)} {many : Nat} {at_ : Int} {e : Int × Int} (h : endL ws many at_ = .error e) : e = (at_, (many : Int) + 1) := by
  unfold endL at h
  split at h
  · exact (Except.error.inj h).symm
  · cases h
/-! ### yards -/
structure Yd where
  n : Int
  ties : List (Int × Int)
  gate : Int
def numLineL (lines : List Line) (fin : Int) (word : List Nat) (lo hi : Int) : Res (Int × List Line) :=
  match lines with
  | [] => .error (fin, 1)
  | (ws, at_) :: r =>
    if ws.head? = some word then
      match takenL ws 1 lo hi at_ with
      | .error e => .error e
      | .ok n =>
        match endL ws 2 at_ with
        | .error e => .error e
        | .ok _ => .ok (n, r)
    else .error (at_, 1)
def lateA (acc : List (Int × Int)) (one : Int) : Bool := match acc.getLast? with
  | none => false
  | some p => decide (one < p.1)
def lateB (acc : List (Int × Int)) (t : Int × Int) : Bool := match acc.getLast? with
  | none => false
  | some p => decide (t.1 < p.1 ∨ (t.1 = p.1 ∧ t.2 ≤ p.2))
def tieL (n : Int) (ws : List (List Nat)) (at_ : Int) (acc : List (Int × Int)) : Res (Int × Int) :=
  match takenL ws 1 0 (n - 2) at_ with
  | .error e => .error e
  | .ok one =>
    if lateA acc one = true then .error (at_, 2) else
    match takenL ws 2 (one + 1) (n - 1) at_ with
    | .error e => .error e
    | .ok other =>
      if lateB acc (one, other) = true then .error (at_, 3) else
      match endL ws 3 at_ with
      | .error e => .error e
      | .ok _ => .ok (one, other)
def tiesL (n : Int) : List Line → List (Int × Int) → Res (List (Int × Int) × List Line)
  | [], acc => .ok (acc, [])
  | (ws, at_) :: r, acc =>
    if ws.head? = some kTie then
      match tieL n ws at_ acc with
      | .error e => .error e
      | .ok t => tiesL n r (acc ++ [t])
    else .ok (acc, (ws, at_) :: r)
def beginL (l : List Line) (fin : Int) : Int := match l with
  | [] => fin
  | (_, at_) :: _ => at_
def yard1 (t : List Nat) : Res (Int × List (Int × Int) × List Line) :=
  match numLineL (linesL t) (finL t) kPlaces 2 7 with
  | .error e => .error e
  | .ok (n, l1) =>
    match tiesL n l1 [] with
    | .error e => .error e
    | .ok (ties, l2) => .ok (n, ties, l2)
def yard2 (conn : Bool) (fin n : Int) (ties : List (Int × Int)) (l2 : List Line) : Res Yd :=
  if conn = false then .error (beginL l2 fin, 1) else
  match numLineL l2 fin kGate 0 (n - 1) with
  | .error e => .error e
  | .ok (g, l3) =>
    match l3 with
    | [] => .ok ⟨n, ties, g⟩
    | (_, at_) :: _ => .error (at_, 1)
inductive Reach (ties : List (Int × Int)) (s : Int) : Int → Prop
  | base : Reach ties s s
  | fwd {a b : Int} : Reach ties s a → (a, b) ∈ ties → Reach ties s b
  | bwd {a b : Int} : Reach ties s b → (a, b) ∈ ties → Reach ties s a
def Conn (n : Int) (ties : List (Int × Int)) : Prop := ∃ L : List Int, L.Nodup ∧ (∀ x, x ∈ L ↔ Reach ties 0 x) ∧ n ≤ (L.length : Int)
open Classical in
noncomputable def connB (n : Int) (ties : List (Int × Int)) : Bool := decide (Conn n ties)
noncomputable def readYardL (t : List Nat) : Res Yd :=
  match yard1 t with
  | .error e => .error e
  | .ok (n, ties, l2) => yard2 (connB n ties) (finL t) n ties l2
def ltP (a b : Int × Int) : Prop := a.1 < b.1 ∨ (a.1 = b.1 ∧ a.2 < b.2)
theorem ltP.trans {a b c : Int × Int} (h : ltP a b) (k : ltP b c) : ltP a c := by
  unfold ltP at *
  omega
def TieOk (n : Int) (t : Int × Int) : Prop := 0 ≤ t.1 ∧ t.1 < t.2 ∧ t.2 ≤ n - 1
structure VY (y : Yd) : Prop where
  lo : 2 ≤ y.n
  hi : y.n ≤ 7
  tie : ∀ t ∈ y.ties, TieOk y.n t
  asc : y.ties.Pairwise ltP
  conn : Conn y.n y.ties
  g0 : 0 ≤ y.gate
  g1 : y.gate ≤ y.n - 1
def tieRow (t : Int × Int) : List (List Nat) := [kTie, intL t.1, intL t.2]
def yardRows (y : Yd) : List (List (List Nat)) := [kPlaces, intL y.n] :: (y.ties.map tieRow ++ [[kGate, intL y.gate]])
theorem numLine_some {lines : List Line} {fin : Int} {word : List Nat} {lo hi n : Int} {r : List Line} (h : numLineL lines fin word lo hi = .ok (n, r)) :
    lo ≤ n ∧ n ≤ hi ∧ lines.map (·.1) = [word, intL n] :: r.map (·.1) := by
  unfold numLineL at h
  split at h
  · cases h
  · rename_i ws at_ r'
    split at h
    · rename_i hw
      split at h
      · cases h
      · rename_i m ht
        split at h
        · cases h
        · rename_i u he
          have e := Except.ok.inj h
          cases e
          obtain ⟨a, b, c⟩ := taken_some ht
          have d := end_some he
          refine ⟨b, c, ?_⟩
          rw [List.map_cons]
          congr 1
          match ws, hw, a, d with
          | [x, y], hw, a, d =>
            simp at hw a
            simp [hw, a]
          | [x], hw, a, d => simp at a
          | x :: y :: z :: q, hw, a, d => simp at d
    · cases h
theorem numLine_ok {ws : List (List Nat)} {at_ : Int} {r : List Line} {fin : Int} {word : List Nat} {lo hi n : Int} (hw : ws = [word, intL n]) (h1 : lo ≤ n) (h2 : n ≤ hi) (hb : n.natAbs < 100000000) :
    numLineL ((ws, at_) :: r) fin word lo hi = .ok (n, r) := by
  subst hw
  unfold numLineL
  simp only [List.head?_cons, if_true]
  rw [taken_ok (n := n) (by simp) h1 h2 hb]
  simp only
  rw [end_ok (by simp)]
theorem ltP_irrefl {a : Int × Int} (h : ltP a a) : False := by
  unfold ltP at h
  omega
theorem late_last {acc : List (Int × Int)} {t : Int × Int} (ha : acc.Pairwise ltP) : lateB acc t = false ↔ ∀ p ∈ acc, ltP p t := by
  unfold lateB
  cases e : acc.getLast? with
  | none =>
    have : acc = [] := List.getLast?_eq_none_iff.mp e
    subst this
    simp
  | some p =>
    obtain ⟨ys, rfl⟩ := List.getLast?_eq_some_iff.mp e
    rw [List.pairwise_append] at ha
    simp only [decide_eq_false_iff_not]
    constructor
    · intro h q hq
      have hpt : ltP p t := by
        unfold ltP
        omega
      rcases List.mem_append.mp hq with hq | hq
      · exact (ha.2.2 q hq p (by simp)).trans hpt
      · have : q = p := by simpa using hq
        rw [this]
        exact hpt
    · intro h
      have := h p (by simp)
      unfold ltP at this
      omega
theorem tie_some {n : Int} {ws : List (List Nat)} {at_ : Int} {acc : List (Int × Int)} {t : Int × Int} (hw : ws.head? = some kTie) (ha : acc.Pairwise ltP) (h : tieL n ws at_ acc = .ok t) :
    ws = tieRow t ∧ TieOk n t ∧ ∀ p ∈ acc, ltP p t := by
  unfold tieL at h
  split at h
  · cases h
  · rename_i one h1
    split at h
    · cases h
    · split at h
      · cases h
      · rename_i other h2
        split at h
        · cases h
        · rename_i hl
          split at h
          · cases h
          · rename_i u h3
            have e := Except.ok.inj h
            subst e
            obtain ⟨a1, b1, c1⟩ := taken_some h1
            obtain ⟨a2, b2, c2⟩ := taken_some h2
            have d := end_some h3
            refine ⟨?_, ⟨by simpa using b1, by simp only; omega, by simp only; omega⟩, (late_last ha).mp (by simpa using hl)⟩
            match ws, hw, a1, a2, d with
            | [x, y, z], hw, a1, a2, d =>
              simp at hw a1 a2
              simp [tieRow, hw, a1, a2]
            | [x, y], hw, a1, a2, d => simp at a2
            | [x], hw, a1, a2, d => simp at a1
            | x :: y :: z :: v :: q, hw, a1, a2, d => simp at d
theorem tie_ok {n : Int} {at_ : Int} {acc : List (Int × Int)} {t : Int × Int} (ha : acc.Pairwise ltP) (hn : n ≤ 7) (ht : TieOk n t) (hl : ∀ p ∈ acc, ltP p t) : tieL n (tieRow t) at_ acc = .ok t := by
  obtain ⟨t1, t2, t3⟩ := ht
  unfold tieL
  rw [taken_ok (n := t.1) (by simp [tieRow]) t1 (by omega) (by omega)]
  simp only
  have hA : lateA acc t.1 = false := by
    unfold lateA
    cases e : acc.getLast? with
    | none => rfl
    | some p =>
      have := hl p (List.mem_of_getLast? e)
      unfold ltP at this
      simp only [decide_eq_false_iff_not]
      omega
  rw [hA, if_neg (by simp), taken_ok (n := t.2) (by simp [tieRow]) (by omega) (by omega) (by omega)]
  simp only
  have hB : lateB acc (t.1, t.2) = false := (late_last ha).mpr hl
  rw [hB, if_neg (by simp), end_ok (by simp [tieRow])]
theorem ties_some {n : Int} : ∀ {lines : List Line} {acc ties : List (Int × Int)} {rest : List Line}, acc.Pairwise ltP → (∀ t ∈ acc, TieOk n t) → tiesL n lines acc = .ok (ties, rest) →
    ties.Pairwise ltP ∧ (∀ t ∈ ties, TieOk n t) ∧ ∃ new, ties = acc ++ new ∧ lines.map (·.1) = new.map tieRow ++ rest.map (·.1)
  | [], acc, ties, rest, ha, ho, h => by
    have e := Except.ok.inj h
    cases e
    exact ⟨ha, ho, [], by simp, by simp⟩
  | (ws, at_) :: r, acc, ties, rest, ha, ho, h => by
    unfold tiesL at h
    split at h
    · rename_i hw
      split at h
      · cases h
      · rename_i t ht
        obtain ⟨e1, e2, e3⟩ := tie_some hw ha ht
        have ha' : (acc ++ [t]).Pairwise ltP := by
          rw [List.pairwise_append]
          exact ⟨ha, by simp, fun p hp q hq => by
            have : q = t := by simpa using hq
            rw [this]
            exact e3 p hp⟩
        have ho' : ∀ x ∈ acc ++ [t], TieOk n x := fun x hx => by
          rcases List.mem_append.mp hx with hx | hx
          · exact ho x hx
          · have : x = t := by simpa using hx
            rw [this]
            exact e2
        obtain ⟨k1, k2, new, k3, k4⟩ := ties_some ha' ho' h
        exact ⟨k1, k2, t :: new, by rw [k3]; simp, by rw [List.map_cons, k4, List.map_cons, ← e1]; rfl⟩
    · have e := Except.ok.inj h
      cases e
      exact ⟨ha, ho, [], by simp, by simp⟩
theorem ties_ok {n : Int} (hn : n ≤ 7) : ∀ {new : List (Int × Int)} {lines : List Line} {acc : List (Int × Int)} {last : List (List Nat)}, (acc ++ new).Pairwise ltP → (∀ t ∈ new, TieOk n t) → last.head? ≠ some kTie →
    lines.map (·.1) = new.map tieRow ++ [last] → ∃ at_, tiesL n lines acc = .ok (acc ++ new, [(last, at_)])
  | [], lines, acc, last, ha, ho, hl, h => by
    match lines, h with
    | [(ws, at_)], h =>
      have e : ws = last := by simpa using h
      subst e
      refine ⟨at_, ?_⟩
      unfold tiesL
      rw [if_neg hl]
      simp
    | [], h => simp at h
    | _ :: _ :: _, h => simp at h
  | t :: new, lines, acc, last, ha, ho, hl, h => by
    match lines, h with
    | [], h => simp at h
    | (ws, at_) :: r, h =>
      rw [List.map_cons, List.map_cons, List.cons_append] at h
      obtain ⟨h1, h2⟩ := List.cons.inj h
      have h1 : ws = tieRow t := h1
      subst h1
      have ha2 : acc ++ t :: new = (acc ++ [t]) ++ new := by simp
      rw [ha2] at ha
      obtain ⟨a', e⟩ := ties_ok hn ha (fun x hx => ho x (List.mem_cons_of_mem _ hx)) hl h2
      refine ⟨a', ?_⟩
      unfold tiesL
      rw [if_pos (by rfl)]
      have ha3 := (List.pairwise_append.mp ha).1
      have ha4 := List.pairwise_append.mp ha3
      rw [tie_ok ha4.1 hn (ho t (by simp)) (fun p hp => ha4.2.2 p hp t (by simp))]
      simp only
      rw [e, ha2]
theorem readYard_ok {t : List Nat} {y : Yd} (v : VY y) (h : (linesL t).map (·.1) = yardRows y) : readYardL t = .ok y := by
  obtain ⟨lo, hi, tie, asc, conn, g0, g1⟩ := v
  unfold readYardL yard1
  cases e : linesL t with
  | nil => rw [e] at h; simp [yardRows] at h
  | cons l r =>
    obtain ⟨ws, at_⟩ := l
    rw [e] at h
    unfold yardRows at h
    rw [List.map_cons] at h
    obtain ⟨h1, h2⟩ := List.cons.inj h
    rw [numLine_ok (n := y.n) h1 lo hi (by omega)]
    simp only
    obtain ⟨a2, e2⟩ := ties_ok (n := y.n) hi (new := y.ties) (acc := []) (lines := r) (last := [kGate, intL y.gate]) (by simpa using asc) tie (by rw [List.head?_cons]; intro z; exact absurd (Option.some.inj z) (by decide)) h2
    rw [e2]
    simp only [List.nil_append]
    have hc : connB y.n y.ties = true := by
      unfold connB
      exact @decide_eq_true _ (Classical.propDecidable _) conn
    unfold yard2
    rw [hc, if_neg (by simp), numLine_ok (n := y.gate) rfl g0 g1 (by omega)]
theorem readYard_some {t : List Nat} {y : Yd} (h : readYardL t = .ok y) : VY y ∧ (linesL t).map (·.1) = yardRows y := by
  unfold readYardL at h
  split at h
  · cases h
  · rename_i n ties l2 h1
    unfold yard1 at h1
    split at h1
    · cases h1
    · rename_i n' l1 hn
      split at h1
      · cases h1
      · rename_i ties' l2' ht
        have e := Except.ok.inj h1
        cases e
        obtain ⟨k1, k2, new, k3, k4⟩ := ties_some (acc := []) List.Pairwise.nil (by simp) ht
        rw [List.nil_append] at k3
        subst k3
        obtain ⟨m1, m2, m3⟩ := numLine_some hn
        unfold yard2 at h
        split at h
        · cases h
        · rename_i hc
          split at h
          · cases h
          · rename_i g l3 hg
            obtain ⟨j1, j2, j3⟩ := numLine_some hg
            split at h
            · have e := Except.ok.inj h
              subst e
              refine ⟨⟨m1, m2, k2, k1, ?_, j1, j2⟩, ?_⟩
              · unfold connB at hc
                simpa using hc
              · rw [m3, k4, j3]
                rfl
            · cases h
theorem nodup_le : ∀ {L M : List Int}, L.Nodup → (∀ x ∈ L, x ∈ M) → L.length ≤ M.length
  | [], M, _, _ => by simp
  | a :: L, M, hn, h => by
    have ha := h a (by simp)
    have hn' := List.nodup_cons.mp hn
    have : L.length ≤ (M.erase a).length := nodup_le hn'.2 fun x hx => by
      have hx' := h x (List.mem_cons_of_mem _ hx)
      exact (List.mem_erase_of_ne (fun e => hn'.1 (by rw [← e]; exact hx))).mpr hx'
    rw [List.length_erase_of_mem ha] at this
    have hpos : 0 < M.length := List.length_pos_of_mem ha
    simp only [List.length_cons]
    omega
theorem conn_iff {n : Int} {ties : List (Int × Int)} {L : List Int} (hn : L.Nodup) (hm : ∀ x, x ∈ L ↔ Reach ties 0 x) : Conn n ties ↔ n ≤ (L.length : Int) := by
  constructor
  · rintro ⟨M, m1, m2, m3⟩
    have : M.length ≤ L.length := nodup_le m1 fun x hx => (hm x).mpr ((m2 x).mp hx)
    omega
  · intro h
    exact ⟨L, hn, hm, h⟩
/-- each place but 0 is tied to a lesser one -/
def Tree (n : Int) (ties : List (Int × Int)) : Prop := ∀ p : Int, 1 ≤ p → p < n → ∃ q, 0 ≤ q ∧ q < p ∧ (q, p) ∈ ties
theorem tree_reach {n : Int} {ties : List (Int × Int)} (h : Tree n ties) : ∀ (k : Nat), (k : Int) < n → Reach ties 0 (k : Int) := by
  intro k
  induction k using Nat.strongRecOn with
  | ind k ih =>
    intro hk
    by_cases h0 : k = 0
    · subst h0
      exact .base
    · obtain ⟨q, q0, q1, q2⟩ := h k (by omega) hk
      have := ih q.toNat (by omega) (by omega)
      have e : ((q.toNat : Nat) : Int) = q := by omega
      rw [e] at this
      exact .fwd this q2
theorem reach_range {n : Int} {ties : List (Int × Int)} (hn : 0 < n) (h : ∀ t ∈ ties, TieOk n t) {x : Int} (r : Reach ties 0 x) : 0 ≤ x ∧ x < n := by
  induction r with
  | base => omega
  | fwd _ hm ih =>
    have := h _ hm
    unfold TieOk at this
    simp only at this
    omega
  | bwd _ hm ih =>
    have := h _ hm
    unfold TieOk at this
    simp only at this
    omega
theorem tree_conn {n : Int} {ties : List (Int × Int)} (hn : 0 < n) (ho : ∀ t ∈ ties, TieOk n t) (h : Tree n ties) : Conn n ties := by
  refine ⟨(List.range n.toNat).map fun k => ((k : Nat) : Int), ?_, fun x => ?_, ?_⟩
  · rw [List.nodup_iff_pairwise_ne, List.pairwise_map]
    have := @List.nodup_range n.toNat
    rw [List.nodup_iff_pairwise_ne] at this
    exact this.imp fun {a b} hab => by omega
  · rw [List.mem_map]
    constructor
    · rintro ⟨k, hk, rfl⟩
      exact tree_reach h k (by have := List.mem_range.mp hk; omega)
    · intro r
      have := reach_range hn ho r
      exact ⟨x.toNat, List.mem_range.mpr (by omega), by omega⟩
  · rw [List.length_map, List.length_range]
    omega
end HK
set_option Elab.async false
set_option linter.all false
set_option maxRecDepth 100000
/-! The plain law, part C: standings, programs; the texts that the law makes; the cases that are written out. -/
namespace HK
open PySem SX
/-! ### standings -/
def standW : Option Int → List Nat
  | none => [45]
  | some b => intL b
def standLoop (n : Int) (ws : List (List Nat)) : Nat → Nat → List (Option Int) → Res (List (Option Int))
  | 0, _, acc => .ok acc
  | k + 1, p, acc =>
    if ws.getD p [] = [45] then standLoop n ws k (p + 1) (acc ++ [none])
    else match wholeL (ws.getD p []) 0 (n - 2) with
      | none => .error (1, (p : Int) + 1)
      | some b => if some b ∈ acc then .error (1, (p : Int) + 1) else standLoop n ws k (p + 1) (acc ++ [some b])
def booksL (st : List (Option Int)) : List Int := st.filterMap id
/-- the places whose book is not below m -/
def wrongL (m : Int) : List (Option Int) → Int → List Int
  | [], _ => []
  | none :: r, k => wrongL m r (k + 1)
  | some b :: r, k => if m ≤ b then k :: wrongL m r (k + 1) else wrongL m r (k + 1)
def readStandL (n : Int) (ws : List (List Nat)) : Res (List (Option Int)) :=
  match standLoop n ws n.toNat 0 [] with
  | .error e => .error e
  | .ok found =>
    match endL ws n.toNat 1 with
    | .error e => .error e
    | .ok _ =>
      if booksL found = [] ∨ ((booksL found).length : Int) = n then .error (1, 1)
      else match wrongL ((booksL found).length : Int) found 0 with
        | [] => .ok found
        | k :: _ => .error (1, k + 1)
structure VS (n : Int) (st : List (Option Int)) : Prop where
  n2 : 2 ≤ n
  n7 : n ≤ 7
  len : (st.length : Int) = n
  some_ : booksL st ≠ []
  hole : none ∈ st
  nd : (booksL st).Nodup
  lt : ∀ b ∈ booksL st, 0 ≤ b ∧ b < ((booksL st).length : Int)
theorem mem_books {st : List (Option Int)} {b : Int} : b ∈ booksL st ↔ some b ∈ st := by
  unfold booksL
  rw [List.mem_filterMap]
  constructor
  · rintro ⟨a, ha, e⟩
    have : a = some b := e
    rw [← this]
    exact ha
  · intro h
    exact ⟨_, h, rfl⟩
theorem books_lt {st : List (Option Int)} (h : none ∈ st) : (booksL st).length < st.length := by
  unfold booksL
  induction st with
  | nil => simp at h
  | cons a r ih =>
    cases a with
    | none =>
      have := List.length_filterMap_le (f := (id : Option Int → Option Int)) (l := r)
      simp only [List.filterMap_cons, id, List.length_cons]
      omega
    | some b =>
      have := ih (by simpa using h)
      simp only [List.filterMap_cons, id, List.length_cons]
      omega
theorem intL_ne_dash (n : Int) : intL n ≠ [45] := by
  intro h
  unfold intL at h
  have hne := TL.numL_ne n.natAbs
  split at h
  · exact hne (List.cons.inj h).2
  · have := head_ne45 (TL.numL_digits n.natAbs)
    rw [h] at this
    exact this rfl
theorem standLoop_ok {n : Int} {st : List (Option Int)} (hn : n ≤ 7) (hnd : (booksL st).Nodup) (hlt : ∀ b ∈ booksL st, 0 ≤ b ∧ b ≤ n - 2) :
    ∀ (k p : Nat), p + k = st.length → standLoop n (st.map standW) k p (st.take p) = .ok st
  | 0, p, h => by
    unfold standLoop
    rw [List.take_of_length_le (by omega)]
  | k + 1, p, h => by
    have hp : p < st.length := by omega
    have eg : (st.map standW).getD p [] = standW st[p] := by
      rw [List.getD_eq_getElem?_getD, List.getElem?_map, List.getElem?_eq_getElem hp]
      rfl
    have et : st.take (p + 1) = st.take p ++ [st[p]] := by
      rw [List.take_succ, List.getElem?_eq_getElem hp]
      rfl
    have ih := standLoop_ok hn hnd hlt k (p + 1) (by omega)
    rw [et] at ih
    unfold standLoop
    rw [eg]
    cases e : st[p] with
    | none =>
      rw [e] at ih
      rw [if_pos (show standW none = [45] from rfl)]
      exact ih
    | some b =>
      rw [e] at ih
      have hb : b ∈ booksL st := mem_books.mpr (by rw [← e]; exact List.getElem_mem hp)
      have := hlt b hb
      show (if intL b = [45] then _ else _) = _
      rw [if_neg (intL_ne_dash b)]
      show (match wholeL (intL b) 0 (n - 2) with
        | none => _
        | some b => _) = _
      rw [whole_int (n := b) this.1 this.2 (by omega)]
      simp only
      rw [if_neg ?_]
      · exact ih
      · intro hm
        -- some b stands twice
        have hd : st = st.take p ++ (some b :: st.drop (p + 1)) := by
          rw [← e, ← List.drop_eq_getElem_cons hp, List.take_append_drop]
        have h2 : booksL st = booksL (st.take p) ++ (b :: booksL (st.drop (p + 1))) := by
          conv => lhs; rw [hd]
          unfold booksL
          rw [List.filterMap_append]
          rfl
        rw [h2] at hnd
        have h3 := (List.nodup_append.mp hnd).2.2 b (mem_books.mpr hm) b (by simp)
        exact h3 rfl
theorem wrong_nil {m : Int} : ∀ {st : List (Option Int)} {k : Int}, (∀ b ∈ booksL st, b < m) → wrongL m st k = []
  | [], _, _ => rfl
  | none :: r, k, h => wrong_nil (st := r) fun b hb => h b (by simpa [booksL] using hb)
  | some b :: r, k, h => by
    have hb := h b (by simp [booksL])
    unfold wrongL
    rw [if_neg (by omega)]
    exact wrong_nil fun c hc => h c (by
      have : c ∈ booksL r := hc
      simp only [booksL, List.filterMap_cons, id]
      exact List.mem_cons_of_mem _ this)
theorem readStand_ok {n : Int} {st : List (Option Int)} (v : VS n st) : readStandL n (st.map standW) = .ok st := by
  have hb := books_lt v.hole
  have hl := v.len
  unfold readStandL
  have e := standLoop_ok v.n7 v.nd (fun b h => ⟨(v.lt b h).1, by have := (v.lt b h).2; omega⟩) n.toNat 0 (by omega)
  rw [List.take_zero] at e
  rw [e]
  simp only
  rw [end_ok (by rw [List.length_map]; omega)]
  simp only
  rw [if_neg, wrong_nil fun b h => (v.lt b h).2]
  rw [not_or]
  exact ⟨v.some_, by omega⟩
/-! ### programs -/
abbrev Ins := List Nat × List Int
def insRow (i : Ins) : List (List Nat) := i.1 :: i.2.map intL
def isOne (w : List Nat) : Bool := w == kSay || w == kAsk || w == kStop
def isAsking (w : List Nat) : Bool := w == kGet || w == kPlus || w == kMinus || w == kSet
def isJump (w : List Nat) : Bool := w == kZero || w == kGo
def instrL (books : Int) (ws : List (List Nat)) (at_ : Int) : Res Ins :=
  if isOne (ws.headD []) = true then
    match endL ws 1 at_ with
    | .error e => .error e
    | .ok _ => .ok (ws.headD [], [])
  else if ws.headD [] = kSlide then
    match takenL ws 1 0 6 at_ with
    | .error e => .error e
    | .ok a =>
      match takenL ws 2 0 6 at_ with
      | .error e => .error e
      | .ok b =>
        match endL ws 3 at_ with
        | .error e => .error e
        | .ok _ => .ok (ws.headD [], [a, b])
  else
    match (if isAsking (ws.headD []) = true then takenL ws 1 0 (books - 1) at_
      else if ws.headD [] = kPut then takenL ws 1 (-1000000) 1000000 at_
      else if isJump (ws.headD []) = true then takenL ws 1 0 6000 at_
      else .error (at_, 1)) with
    | .error e => .error e
    | .ok n =>
      match endL ws 2 at_ with
      | .error e => .error e
      | .ok _ => .ok (ws.headD [], [n])
def VI (books many : Int) (i : Ins) : Prop :=
  (isOne i.1 = true ∧ i.2 = []) ∨ (i.1 = kSlide ∧ ∃ a b, i.2 = [a, b] ∧ 0 ≤ a ∧ a ≤ 6 ∧ 0 ≤ b ∧ b ≤ 6) ∨ (isAsking i.1 = true ∧ ∃ b, i.2 = [b] ∧ 0 ≤ b ∧ b ≤ books - 1) ∨
  (i.1 = kPut ∧ ∃ k, i.2 = [k] ∧ -1000000 ≤ k ∧ k ≤ 1000000) ∨ (isJump i.1 = true ∧ ∃ t, i.2 = [t] ∧ 0 ≤ t ∧ t ≤ many)
theorem isOne_cases {w : List Nat} (h : isOne w = true) : w = kSay ∨ w = kAsk ∨ w = kStop := by
  simp only [isOne, Bool.or_eq_true, beq_iff_eq] at h
  rcases h with (h | h) | h
  · exact Or.inl h
  · exact Or.inr (Or.inl h)
  · exact Or.inr (Or.inr h)
theorem isAsking_cases {w : List Nat} (h : isAsking w = true) : w = kGet ∨ w = kPlus ∨ w = kMinus ∨ w = kSet := by
  simp only [isAsking, Bool.or_eq_true, beq_iff_eq] at h
  rcases h with ((h | h) | h) | h
  · exact Or.inl h
  · exact Or.inr (Or.inl h)
  · exact Or.inr (Or.inr (Or.inl h))
  · exact Or.inr (Or.inr (Or.inr h))
theorem isJump_cases {w : List Nat} (h : isJump w = true) : w = kZero ∨ w = kGo := by
  simpa only [isJump, Bool.or_eq_true, beq_iff_eq] using h
theorem list1 {ws : List (List Nat)} (hne : ws ≠ []) (h : ws.length ≤ 1) : ws = [ws.headD []] := by
  match ws, hne, h with
  | [x], _, _ => rfl
  | x :: y :: r, _, h => simp at h
theorem list2 {ws : List (List Nat)} {b : List Nat} (h1 : ws[1]? = some b) (h : ws.length ≤ 2) : ws = [ws.headD [], b] := by
  match ws, h1, h with
  | [x, y], h1, _ =>
    simp at h1
    simp [h1]
  | [x], h1, _ => simp at h1
  | [], h1, _ => simp at h1
  | x :: y :: z :: r, _, h => simp at h
theorem list3 {ws : List (List Nat)} {b c : List Nat} (h1 : ws[1]? = some b) (h2 : ws[2]? = some c) (h : ws.length ≤ 3) : ws = [ws.headD [], b, c] := by
  match ws, h1, h2, h with
  | [x, y, z], h1, h2, _ =>
    simp at h1 h2
    simp [h1, h2]
  | [x, y], h1, h2, _ => simp at h2
  | [x], h1, _, _ => simp at h1
  | [], h1, _, _ => simp at h1
  | x :: y :: z :: v :: r, _, _, h => simp at h
theorem instr_some {books : Int} {ws : List (List Nat)} {at_ : Int} {i : Ins} (hne : ws ≠ []) (h : instrL books ws at_ = .ok i) : ws = insRow i ∧ VI books 6000 i := by
  unfold instrL at h
  split at h
  · rename_i c1
    split at h
    · cases h
    · rename_i u he
      have e := Except.ok.inj h
      subst e
      exact ⟨list1 hne (end_some he), Or.inl ⟨c1, rfl⟩⟩
  · split at h
    · rename_i c2
      split at h
      · cases h
      · rename_i a h1
        split at h
        · cases h
        · rename_i b h2
          split at h
          · cases h
          · rename_i u he
            have e := Except.ok.inj h
            subst e
            obtain ⟨a1, a2, a3⟩ := taken_some h1
            obtain ⟨b1, b2, b3⟩ := taken_some h2
            exact ⟨list3 a1 b1 (end_some he), Or.inr (Or.inl ⟨c2, a, b, rfl, a2, a3, b2, b3⟩)⟩
    · split at h
      · cases h
      · rename_i n hn
        split at h
        · cases h
        · rename_i u he
          have e := Except.ok.inj h
          subst e
          split at hn
          · rename_i c
            obtain ⟨a1, a2, a3⟩ := taken_some hn
            exact ⟨list2 a1 (end_some he), Or.inr (Or.inr (Or.inl ⟨c, n, rfl, a2, a3⟩))⟩
          · split at hn
            · rename_i c
              obtain ⟨a1, a2, a3⟩ := taken_some hn
              exact ⟨list2 a1 (end_some he), Or.inr (Or.inr (Or.inr (Or.inl ⟨c, n, rfl, a2, a3⟩)))⟩
            · split at hn
              · rename_i c
                obtain ⟨a1, a2, a3⟩ := taken_some hn
                exact ⟨list2 a1 (end_some he), Or.inr (Or.inr (Or.inr (Or.inr ⟨c, n, rfl, a2, a3⟩)))⟩
              · cases hn
theorem instr_ok {books many : Int} {at_ : Int} {i : Ins} (hb : books ≤ 6) (hm : many ≤ 6000) (h : VI books many i) : instrL books (insRow i) at_ = .ok i := by
  obtain ⟨w, ns⟩ := i
  rcases h with ⟨h1, h2⟩ | ⟨h1, a, b, h2, h3, h4, h5, h6⟩ | ⟨h1, b, h2, h3, h4⟩ | ⟨h1, b, h2, h3, h4⟩ | ⟨h1, b, h2, h3, h4⟩
  · simp only at h1 h2
    subst h2
    unfold instrL insRow
    simp only [List.headD_cons, List.map_nil]
    rw [if_pos h1, end_ok (by simp)]
  · simp only at h1 h2
    subst h1 h2
    unfold instrL insRow
    simp only [List.headD_cons, List.map_cons, List.map_nil]
    rw [if_neg (by decide), if_pos True.intro, taken_ok (n := a) (by simp) h3 h4 (by omega)]
    simp only
    rw [taken_ok (n := b) (by simp) h5 h6 (by omega)]
    simp only
    rw [end_ok (by simp)]
  · simp only at h1 h2
    subst h2
    have hn : isOne w = false ∧ w ≠ kSlide := by rcases isAsking_cases h1 with e | e | e | e <;> subst e <;> decide
    unfold instrL insRow
    simp only [List.headD_cons, List.map_cons, List.map_nil]
    rw [if_neg (by rw [hn.1]; simp), if_neg hn.2, if_pos h1, taken_ok (n := b) (by simp) h3 h4 (by omega)]
    simp only
    rw [end_ok (by simp)]
  · simp only at h1 h2
    subst h1 h2
    unfold instrL insRow
    simp only [List.headD_cons, List.map_cons, List.map_nil]
    rw [if_neg (by decide), if_neg (by decide), if_neg (by decide), if_pos True.intro, taken_ok (n := b) (by simp) h3 h4 (by omega)]
    simp only
    rw [end_ok (by simp)]
  · simp only at h1 h2
    subst h2
    have hn : isOne w = false ∧ w ≠ kSlide ∧ isAsking w = false ∧ w ≠ kPut := by rcases isJump_cases h1 with e | e <;> subst e <;> decide
    unfold instrL insRow
    simp only [List.headD_cons, List.map_cons, List.map_nil]
    rw [if_neg (by rw [hn.1]; simp), if_neg hn.2.1, if_neg (by rw [hn.2.2.1]; simp), if_neg hn.2.2.2, if_pos h1, taken_ok (n := b) (by simp) h3 (by omega) (by omega)]
    simp only
    rw [end_ok (by simp)]
theorem instr_err {books : Int} {ws : List (List Nat)} {at_ : Int} {e : Int × Int} (h : instrL books ws at_ = .error e) : e.1 = at_ := by
  unfold instrL at h
  split at h
  · split at h
    · rename_i e' he
      have := Except.error.inj h
      subst this
      rw [end_err he]
    · cases h
  · split at h
    · split at h
      · rename_i e' he
        have := Except.error.inj h
        subst this
        rw [taken_err he]
      · split at h
        · rename_i e' he
          have := Except.error.inj h
          subst this
          rw [taken_err he]
        · split at h
          · rename_i e' he
            have := Except.error.inj h
            subst this
            rw [end_err he]
          · cases h
    · split at h
      · rename_i e' hn
        have := Except.error.inj h
        subst this
        split at hn
        · rw [taken_err hn]
        · split at hn
          · rw [taken_err hn]
          · split at hn
            · rw [taken_err hn]
            · have := Except.error.inj hn
              rw [← this]
      · split at h
        · rename_i e' he
          have := Except.error.inj h
          subst this
          rw [end_err he]
        · cases h
def progLoop (books : Int) : List Line → Res (List Ins)
  | [] => .ok []
  | (ws, at_) :: r =>
    match instrL books ws at_ with
    | .error e => .error e
    | .ok i =>
      match progLoop books r with
      | .error e => .error e
      | .ok p => .ok (i :: p)
def badJump (m : Int) : List Ins → List Line → Option Int
  | i :: p, (ws, at_) :: r => if isJump i.1 = true ∧ m < i.2.headD 0 then some at_ else badJump m p r
  | _, _ => none
def readProgL (books : Int) (t : List Nat) : Res (List Ins) :=
  if linesL t = [] then .error (finL t, 1)
  else match progLoop books (linesL t) with
    | .error e => .error e
    | .ok p => match badJump (p.length : Int) p (linesL t) with
      | some at_ => .error (at_, 2)
      | none => .ok p
structure VP (books : Int) (p : List Ins) : Prop where
  ne : p ≠ []
  most : (p.length : Int) ≤ 6000
  ok : ∀ i ∈ p, VI books (p.length : Int) i
theorem progLoop_some {books : Int} : ∀ {lines : List Line} {p : List Ins}, (∀ l ∈ lines, l.1 ≠ []) → progLoop books lines = .ok p → lines.map (·.1) = p.map insRow ∧ ∀ i ∈ p, VI books 6000 i
  | [], p, _, h => by
    have e := Except.ok.inj h
    subst e
    simp
  | (ws, at_) :: r, p, hne, h => by
    unfold progLoop at h
    split at h
    · cases h
    · rename_i i hi
      split at h
      · cases h
      · rename_i q hq
        have e := Except.ok.inj h
        subst e
        obtain ⟨a, b⟩ := instr_some (hne (ws, at_) (by simp)) hi
        obtain ⟨c, d⟩ := progLoop_some (fun l hl => hne l (List.mem_cons_of_mem _ hl)) hq
        refine ⟨by rw [List.map_cons, List.map_cons, c]; exact congrArg (fun z => z :: q.map insRow) a, fun x hx => ?_⟩
        rcases List.mem_cons.mp hx with e | hx
        · rw [e]
          exact b
        · exact d x hx
theorem progLoop_ok {books many : Int} (hb : books ≤ 6) (hm : many ≤ 6000) : ∀ {lines : List Line} {p : List Ins}, lines.map (·.1) = p.map insRow → (∀ i ∈ p, VI books many i) → progLoop books lines = .ok p
  | [], [], _, _ => rfl
  | [], _ :: _, h, _ => by simp at h
  | _ :: _, [], h, _ => by simp at h
  | (ws, at_) :: r, i :: p, h, hv => by
    rw [List.map_cons, List.map_cons] at h
    obtain ⟨h1, h2⟩ := List.cons.inj h
    have h1 : ws = insRow i := h1
    subst h1
    unfold progLoop
    rw [instr_ok hb hm (hv i (by simp))]
    simp only
    rw [progLoop_ok hb hm h2 fun x hx => hv x (List.mem_cons_of_mem _ hx)]
theorem isJump_vi {books many : Int} {i : Ins} (h : VI books many i) (hj : isJump i.1 = true) : ∃ t, i.2 = [t] ∧ 0 ≤ t ∧ t ≤ many := by
  rcases h with ⟨h1, _⟩ | ⟨h1, _⟩ | ⟨h1, _⟩ | ⟨h1, _⟩ | ⟨_, h2⟩
  · rcases isOne_cases h1 with e | e | e <;> rw [e] at hj <;> exact absurd hj (by decide)
  · rw [h1] at hj
    exact absurd hj (by decide)
  · rcases isAsking_cases h1 with e | e | e | e <;> rw [e] at hj <;> exact absurd hj (by decide)
  · rw [h1] at hj
    exact absurd hj (by decide)
  · exact h2
theorem badJump_none {m : Int} {books : Int} : ∀ {p : List Ins} {lines : List Line}, (∀ i ∈ p, VI books m i) → badJump m p lines = none
  | [], _, _ => by unfold badJump; rfl
  | i :: p, [], _ => by unfold badJump; rfl
  | i :: p, (ws, at_) :: r, h => by
    unfold badJump
    rw [if_neg, badJump_none fun x hx => h x (List.mem_cons_of_mem _ hx)]
    rintro ⟨a, b⟩
    obtain ⟨t, e, h1, h2⟩ := isJump_vi (h i (by simp)) a
    rw [e] at b
    simp only [List.headD_cons] at b
    omega
theorem vi_mono {books m m' : Int} {i : Ins} (h : VI books m i) (hj : isJump i.1 = true → i.2.headD 0 ≤ m') : VI books m' i := by
  rcases h with h | h | h | h | ⟨h1, t, h2, h3, h4⟩
  · exact Or.inl h
  · exact Or.inr (Or.inl h)
  · exact Or.inr (Or.inr (Or.inl h))
  · exact Or.inr (Or.inr (Or.inr (Or.inl h)))
  · refine Or.inr (Or.inr (Or.inr (Or.inr ⟨h1, t, h2, h3, ?_⟩)))
    have := hj h1
    rw [h2] at this
    exact this
theorem badJump_all {m books : Int} : ∀ {p : List Ins} {lines : List Line}, p.length = lines.length → (∀ i ∈ p, VI books 6000 i) → badJump m p lines = none → ∀ i ∈ p, VI books m i
  | [], _, _, _, _ => by simp
  | i :: p, [], hl, _, _ => by simp at hl
  | i :: p, (ws, at_) :: r, hl, hv, h => by
    unfold badJump at h
    split at h
    · cases h
    · rename_i hc
      intro x hx
      rcases List.mem_cons.mp hx with e | hx
      · subst e
        exact vi_mono (hv x (by simp)) fun hj => by
          rw [not_and] at hc
          have := hc hj
          omega
      · exact badJump_all (by simpa using hl) (fun z hz => hv z (List.mem_cons_of_mem _ hz)) h x hx
theorem readProg_some {books : Int} {t : List Nat} {p : List Ins} (hl : (linesL t).length ≤ 6000) (h : readProgL books t = .ok p) : VP books p ∧ (linesL t).map (·.1) = p.map insRow := by
  unfold readProgL at h
  split at h
  · cases h
  · rename_i hne
    split at h
    · cases h
    · rename_i q hq
      split at h
      · cases h
      · rename_i hb
        have e := Except.ok.inj h
        subst e
        obtain ⟨a, b⟩ := progLoop_some (fun l hm => linesL_ne hm) hq
        have hlen : q.length = (linesL t).length := by
          have := congrArg List.length a
          simpa using this.symm
        refine ⟨⟨fun e => hne ?_, by omega, badJump_all hlen b hb⟩, a⟩
        rw [e] at hlen
        exact List.length_eq_zero_iff.mp hlen.symm
theorem readProg_ok {books : Int} {t : List Nat} {p : List Ins} (hb : books ≤ 6) (v : VP books p) (h : (linesL t).map (·.1) = p.map insRow) : readProgL books t = .ok p := by
  unfold readProgL
  rw [if_neg, progLoop_ok hb v.most h v.ok]
  · simp only
    rw [badJump_none v.ok]
  · intro e
    rw [e] at h
    exact v.ne (by simpa using h.symm)
/-- where a program's text with one row bent goes wrong, it does so at that row -/
theorem prog_err_line {books m : Int} (hb : books ≤ 6) (hm : m ≤ 6000) : ∀ {lines : List Line} {e : Int × Int}, progLoop books lines = .error e → ∃ l ∈ lines, instrL books l.1 l.2 = .error e
  | [], e, h => by cases h
  | (ws, at_) :: r, e, h => by
    unfold progLoop at h
    split at h
    · rename_i e' he
      have := Except.error.inj h
      subst this
      exact ⟨(ws, at_), by simp, he⟩
    · split at h
      · rename_i e' he
        have := Except.error.inj h
        subst this
        obtain ⟨l, h1, h2⟩ := prog_err_line hb hm he
        exact ⟨l, List.mem_cons_of_mem _ h1, h2⟩
      · cases h
theorem badJump_line {m : Int} : ∀ {p : List Ins} {lines : List Line} {a : Int}, badJump m p lines = some a → ∃ (k : Nat) (i : Ins) (l : Line), p[k]? = some i ∧ lines[k]? = some l ∧ l.2 = a ∧ isJump i.1 = true ∧ m < i.2.headD 0
  | [], _, _, h => by unfold badJump at h; cases h
  | i :: p, [], _, h => by unfold badJump at h; cases h
  | i :: p, (ws, at_) :: r, a, h => by
    unfold badJump at h
    split at h
    · rename_i hc
      have e := Option.some.inj h
      exact ⟨0, i, (ws, at_), rfl, rfl, e, hc.1, hc.2⟩
    · obtain ⟨k, j, l, h1, h2, h3⟩ := badJump_line h
      exact ⟨k + 1, j, l, by simpa using h1, by simpa using h2, h3⟩
theorem insRow_inj {i j : Ins} (h : insRow i = insRow j) : i = j := by
  obtain ⟨w, ns⟩ := i
  obtain ⟨v, ms⟩ := j
  unfold insRow at h
  simp only at h
  obtain ⟨h1, h2⟩ := List.cons.inj h
  subst h1
  congr 1
  have key : ∀ {a b : List Int}, a.map intL = b.map intL → a = b := by
    intro a
    induction a with
    | nil =>
      intro b h
      cases b with
      | nil => rfl
      | cons x y => simp at h
    | cons x a ih =>
      intro b h
      cases b with
      | nil => simp at h
      | cons y b =>
        rw [List.map_cons, List.map_cons] at h
        obtain ⟨h1, h2⟩ := List.cons.inj h
        rw [intL_inj h1, ih h2]
  exact key h2
theorem bent_prog {books : Int} {p : List Ins} {k : Nat} {r : List (List Nat)} {e : Int × Int} (hb : books ≤ 6) (v : VP books p) (hrows : ∀ x ∈ (p.map insRow).set k r, Rw x)
    (h : readProgL books (textL ((p.map insRow).set k r)) = .error e) : e.1 = (k : Int) + 1 := by
  have hne : (p.map insRow).set k r ≠ [] := by
    intro z
    have := congrArg List.length z
    simp at this
    exact v.ne this
  have hlines := linesL_text hne hrows
  have hnth : ∀ (j : Nat) (l : Line), (linesL (textL ((p.map insRow).set k r)))[j]? = some l → l.2 = 1 + (j : Int) ∧ ((p.map insRow).set k r)[j]? = some l.1 := by
    intro j l hl
    rw [hlines, List.getElem?_map, List.getElem?_zipIdx] at hl
    cases e1 : ((p.map insRow).set k r)[j]? with
    | none => rw [e1] at hl; simp at hl
    | some x =>
      rw [e1] at hl
      have := Option.some.inj hl
      rw [← this]
      simp
  have hother : ∀ (j : Nat) (x : List (List Nat)), j ≠ k → ((p.map insRow).set k r)[j]? = some x → ∃ i ∈ p, p[j]? = some i ∧ x = insRow i := by
    intro j x hj hx
    rw [List.getElem?_set_ne (Ne.symm hj), List.getElem?_map] at hx
    cases e1 : p[j]? with
    | none => rw [e1] at hx; simp at hx
    | some i =>
      rw [e1] at hx
      exact ⟨i, List.mem_of_getElem? e1, rfl, (Option.some.inj hx).symm⟩
  unfold readProgL at h
  split at h
  · rename_i hl
    rw [hlines] at hl
    exact absurd (by simpa using hl) hne
  · split at h
    · rename_i e' he
      have := Except.error.inj h
      subst this
      obtain ⟨l, hl, hi⟩ := prog_err_line (m := 6000) hb (by decide) he
      obtain ⟨j, hj, ej⟩ := List.getElem_of_mem hl
      have hj' : (linesL (textL ((p.map insRow).set k r)))[j]? = some l := by rw [List.getElem?_eq_getElem hj, ej]
      obtain ⟨a1, a2⟩ := hnth j l hj'
      rw [instr_err hi, a1]
      by_cases hjk : j = k
      · rw [hjk]
        omega
      · obtain ⟨i, hi1, _, hi2⟩ := hother j l.1 hjk a2
        rw [hi2, instr_ok hb v.most (v.ok i hi1)] at hi
        cases hi
    · rename_i q hq
      split at h
      · rename_i a hbad
        have := Except.error.inj h
        subst this
        obtain ⟨j, i, l, h1, h2, h3, h4, h5⟩ := badJump_line hbad
        obtain ⟨a1, a2⟩ := hnth j l h2
        simp only
        rw [← h3, a1]
        by_cases hjk : j = k
        · rw [hjk]
          omega
        · obtain ⟨i', hi1, hi2, hi3⟩ := hother j l.1 hjk a2
          obtain ⟨c1, _⟩ := progLoop_some (fun l hm => linesL_ne hm) hq
          have c2 : (q.map insRow)[j]? = some l.1 := by rw [← c1, List.getElem?_map, h2]; rfl
          rw [List.getElem?_map, h1] at c2
          have c3 : insRow i = insRow i' := (Option.some.inj c2).trans hi3
          have c4 := insRow_inj c3
          subst c4
          obtain ⟨t, t1, t2, t3⟩ := isJump_vi (v.ok i hi1) h4
          rw [t1] at h5
          simp only [List.headD_cons] at h5
          have hlen : q.length = p.length := by
            have := congrArg List.length c1
            rw [hlines] at this
            simpa using this.symm
          omega
      · cases h
end HK
set_option Elab.async false
set_option linter.all false
set_option maxRecDepth 100000
set_option maxHeartbeats 1000000
/-! What a state may become; data that stands; defs under their names. -/
namespace HK
open PySem PySem.Spec PyProof.Rows L2 SX
/-! ### tables that may grow, all else that stays -/
def Tb (T : List Addr) (H : Hp) : Prop := ∀ P ∈ T, GxR.TabG H P
theorem Tb.no {T : List Addr} {H : Hp} (t : Tb T H) {a : Addr} {o : HO} (h : H a = some o) (n : ∀ ps, o ≠ .tbl ps) : a ∉ T := fun hm => by
  obtain ⟨ps, e, _⟩ := t a hm
  rw [h] at e
  exact n ps (Option.some.inj e)
theorem Tb.nofree {T : List Addr} {H : Hp} (t : Tb T H) {a : Addr} (h : H a = none) : a ∉ T := fun hm => by
  obtain ⟨ps, e, _⟩ := t a hm
  rw [h] at e
  cases e
structure Go (T : List Addr) (H H' : Hp) : Prop where
  t0 : Tb T H
  t1 : Tb T H'
  keep : ∀ b o, b ∉ T → H b = some o → H' b = some o
section
variable {T : List Addr} {H H1 H2 : Hp} {K : PySem.W.Frag}
theorem Go.refl (t : Tb T H) : Go T H H := ⟨t, t, fun _ _ _ h => h⟩
theorem Go.trans (a : Go T H H1) (b : Go T H1 H2) : Go T H H2 := ⟨a.t0, b.t1, fun c o n h => b.keep c o n (a.keep c o n h)⟩
theorem Go.at (g : Go T H H1) {a : Addr} {o : HO} (h : H a = some o) (n : ∀ ps, o ≠ .tbl ps) : H1 a = some o := g.keep a o (g.t0.no h n) h
theorem Go.lst (g : Go T H H1) {a : Addr} {xs : List V} (h : H a = some (.lst xs)) : H1 a = some (.lst xs) := g.at h fun _ z => by cases z
theorem Go.tup (g : Go T H H1) {a : Addr} {xs : List V} (h : H a = some (.tup xs)) : H1 a = some (.tup xs) := g.at h fun _ z => by cases z
theorem Go.rd (g : Go T H H1) {a : Addr} {u : HO} (n : ∀ ps, u ≠ .tbl ps) (h : Rd H a u) : Rd H1 a u := by
  rcases h with h | ⟨o, h⟩
  · exact .inl (g.at h n)
  · exact .inr ⟨o, g.at h fun _ z => by cases z⟩
theorem Go.sl (g : Go T H H1) {a : Addr} {xs : List V} (h : SqL K H a xs) : SqL K H1 a xs := by
  rcases h with h | h
  · exact .inl (g.rd (fun _ z => by cases z) h)
  · exact .inr h
theorem Go.st (g : Go T H H1) {a : Addr} {xs : List V} (h : SqT K H a xs) : SqT K H1 a xs := by
  rcases h with h | h
  · exact .inl (g.rd (fun _ z => by cases z) h)
  · exact .inr h
/-- what is free behind was free ahead -/
theorem Go.free (g : Go T H H1) {a : Addr} (h : H1 a = none) : H a = none := by
  cases e : H a with
  | none => rfl
  | some o =>
    have := g.keep a o (g.t1.nofree h) e
    rw [h] at this
    cases this
/-- a new thing, or one that H did not know, is laid or changed -/
theorem Go.put (g : Go T H H1) {a : Addr} {o : HO} (h : H a = none) : Go T H (upd H1 a o) := by
  have n := g.t0.nofree h
  refine ⟨g.t0, fun P hP => ?_, fun b u nb e => ?_⟩
  · obtain ⟨ps, e, r⟩ := g.t1 P hP
    exact ⟨ps, by rw [upd_ne (fun z => n (by rw [← z]; exact hP))]; exact e, r⟩
  · rw [upd_ne (ne_of_none e h)]
    exact g.keep b u nb e
theorem Go.new (t : Tb T H) {a : Addr} {o : HO} (h : H a = none) : Go T H (upd H a o) := (Go.refl t).put h
theorem Go.then (g : Go T H H1) {a : Addr} {o : HO} (h : H1 a = none) : Go T H (upd H1 a o) := g.put (g.free h)
theorem Tb.of_same {H' : Hp} (t : Tb T H) (k : ∀ b o, H b = some o → H' b = some o) : Tb T H' := fun P hP => by
  obtain ⟨ps, e, r⟩ := t P hP
  exact ⟨ps, k _ _ e, r⟩
theorem Go.same (t : Tb T H) (k : ∀ b o, H b = some o → H1 b = some o) : Go T H H1 := ⟨t, t.of_same k, fun b o _ h => k b o h⟩
/-- a table of ours has grown -/
theorem Go.tab {P : Addr} (t : Tb T H) (hP : P ∈ T) (h : GxR.Tabbed P H H1) : Go T H H1 := ⟨t, fun P' hP' => by
    by_cases e : P' = P
    · rw [e]
      exact h.1
    · obtain ⟨ps, a, b⟩ := t P' hP'
      exact ⟨ps, by rw [h.2 P' e]; exact a, b⟩, fun b o n e => by rw [h.2 b (fun z => n (by rw [z]; exact hP))]; exact e⟩
end
/-! ### data that stands -/
mutual
theorem Dp.go {T : List Addr} {K : PySem.W.Frag} {H H1 : Hp} (g : Go T H H1) : ∀ {v : V} {d : PyData}, Dp K H v d → Dp K H1 v d
  | _, _, .non => .non
  | _, _, .bl b => .bl b
  | _, _, .int i => .int i
  | _, _, .str x => .str x
  | _, _, .lst a b => .lst (g.sl a) (DpAll.go g b)
  | _, _, .tup a b => .tup (g.st a) (DpAll.go g b)
theorem DpAll.go {T : List Addr} {K : PySem.W.Frag} {H H1 : Hp} (g : Go T H H1) : ∀ {vs : List V} {ds : List PyData}, DpAll K H vs ds → DpAll K H1 vs ds
  | _, _, .nil => .nil
  | _, _, .cons a b => .cons (Dp.go g a) (DpAll.go g b)
end
section
variable {K : PySem.W.Frag} {H : Hp}
theorem Dp.tup_inv {v : V} {ds : List PyData} (h : Dp K H v (.tuple ds)) : ∃ a xs, v = .ref a ∧ SqT K H a xs ∧ DpAll K H xs ds := by
  cases h with
  | tup a b => exact ⟨_, _, rfl, a, b⟩
theorem Dp.int_inv {v : V} {i : Int} (h : Dp K H v (.int i)) : v = .int i := by
  cases h
  rfl
theorem Dp.str_inv {v : V} {i : Str} (h : Dp K H v (.str i)) : v = .str i := by
  cases h
  rfl
theorem DpAll.cons_inv {vs : List V} {d : PyData} {ds : List PyData} (h : DpAll K H vs (d :: ds)) : ∃ v r, vs = v :: r ∧ Dp K H v d ∧ DpAll K H r ds := by
  cases h with
  | cons a b => exact ⟨_, _, rfl, a, b⟩
theorem DpAll.nil_inv {vs : List V} (h : DpAll K H vs []) : vs = [] := by
  cases h
  rfl
theorem DpAll.len : ∀ {vs : List V} {ds : List PyData}, DpAll K H vs ds → vs.length = ds.length
  | _, _, .nil => rfl
  | _, _, .cons _ b => congrArg (· + 1) (DpAll.len b)
theorem DpAll.get : ∀ {vs : List V} {ds : List PyData} {i : Nat} {d : PyData}, DpAll K H vs ds → ds[i]? = some d → ∃ v, vs[i]? = some v ∧ Dp K H v d
  | _, _, _, _, .nil, e => by simp at e
  | _, _, 0, _, .cons a _, e => by simp at e; subst e; exact ⟨_, rfl, a⟩
  | _, _, i + 1, d, .cons _ b, e => by
    obtain ⟨v, h1, h2⟩ := DpAll.get (i := i) (d := d) b (by simpa using e)
    exact ⟨v, by simpa using h1, h2⟩
theorem DpAll.get' : ∀ {vs : List V} {ds : List PyData} {i : Nat} {v : V}, DpAll K H vs ds → vs[i]? = some v → ∃ d, ds[i]? = some d ∧ Dp K H v d
  | _, _, _, _, .nil, e => by simp at e
  | _, _, 0, _, .cons a _, e => by simp at e; subst e; exact ⟨_, rfl, a⟩
  | _, _, i + 1, v, .cons _ b, e => by
    obtain ⟨d, h1, h2⟩ := DpAll.get' (i := i) (v := v) b (by simpa using e)
    exact ⟨d, by simpa using h1, h2⟩
theorem DpAll.append : ∀ {vs ws : List V} {ds es : List PyData}, DpAll K H vs ds → DpAll K H ws es → DpAll K H (vs ++ ws) (ds ++ es)
  | _, _, _, _, .nil, h => h
  | _, _, _, _, .cons a b, h => .cons a (DpAll.append b h)
theorem DpAll.ints : ∀ (ns : List Int), DpAll K H (ns.map V.int) (ns.map PyData.int)
  | [] => .nil
  | n :: ns => .cons (.int n) (DpAll.ints ns)
theorem DpAll.ints_inv : ∀ {ns : List Int} {vs : List V}, DpAll K H vs (ns.map PyData.int) → vs = ns.map V.int
  | [], _, h => DpAll.nil_inv h
  | n :: ns, vs, h => by
    obtain ⟨v, r, rfl, a, b⟩ := DpAll.cons_inv h
    rw [Dp.int_inv a, DpAll.ints_inv b]
    rfl
theorem Dp.pair_inv {v : V} {a b : Int} (h : Dp K H v (.tuple [.int a, .int b])) : ∃ p, v = .ref p ∧ SqT K H p [.int a, .int b] := by
  obtain ⟨p, xs, rfl, h1, h2⟩ := Dp.tup_inv h
  have := DpAll.ints_inv (ns := [a, b]) h2
  subst this
  exact ⟨p, rfl, h1⟩
end
def tieD (t : Int × Int) : PyData := .tuple [.int t.1, .int t.2]
def tiesD (ts : List (Int × Int)) : PyData := .tuple (ts.map tieD)
def yardD (y : Yd) : PyData := .tuple [.int y.n, tiesD y.ties, .int y.gate]
def bookD : Option Int → PyData
  | none => .none
  | some b => .int b
def bookV : Option Int → V
  | none => .non
  | some b => .int b
def standD (st : List (Option Int)) : PyData := .tuple (st.map bookD)
def insD (i : Ins) : PyData := .tuple (.str (S i.1) :: i.2.map .int)
def progD (p : List Ins) : PyData := .tuple (p.map insD)
theorem stand_inv {K : PySem.W.Frag} {H : Hp} : ∀ {st : List (Option Int)} {vs : List V}, DpAll K H vs (st.map bookD) → vs = st.map bookV
  | [], _, h => DpAll.nil_inv h
  | none :: st, vs, h => by
    obtain ⟨v, r, rfl, a, b⟩ := DpAll.cons_inv h
    rw [stand_inv b]
    cases a
    rfl
  | some n :: st, vs, h => by
    obtain ⟨v, r, rfl, a, b⟩ := DpAll.cons_inv h
    rw [stand_inv b]
    cases a
    rfl
theorem stand_all {K : PySem.W.Frag} {H : Hp} : ∀ (st : List (Option Int)), DpAll K H (st.map bookV) (st.map bookD)
  | [] => .nil
  | none :: st => .cons .non (stand_all st)
  | some n :: st => .cons (.int n) (stand_all st)
/-! ### words, lines -/
def wV (w : List Nat) : V := .str (S w)
def WordsAt (K : PySem.W.Frag) (H : Hp) (v : V) (ws : List (List Nat)) : Prop := ∃ p, v = .ref p ∧ SqL K H p (ws.map wV)
def LineAt (K : PySem.W.Frag) (H : Hp) (v : V) (l : Line) : Prop := ∃ p w, v = .ref p ∧ SqT K H p [w, .int l.2] ∧ WordsAt K H w l.1
theorem WordsAt.go {T : List Addr} {K : PySem.W.Frag} {H H1 : Hp} {v : V} {ws : List (List Nat)} (g : Go T H H1) (h : WordsAt K H v ws) : WordsAt K H1 v ws := by
  obtain ⟨p, e, h⟩ := h
  exact ⟨p, e, g.sl h⟩
theorem LineAt.go {T : List Addr} {K : PySem.W.Frag} {H H1 : Hp} {v : V} {l : Line} (g : Go T H H1) (h : LineAt K H v l) : LineAt K H1 v l := by
  obtain ⟨p, w, e, h1, h2⟩ := h
  exact ⟨p, w, e, g.st h1, h2.go g⟩
theorem Lines.go {T : List Addr} {K : PySem.W.Frag} {H H1 : Hp} {xs : List V} {ls : List Line} (g : Go T H H1) (h : Paired (LineAt K H) xs ls) : Paired (LineAt K H1) xs ls := L2.Paired.mapP h fun _ _ z => z.go g
/-! ### a def under its name -/
structure Df (K : PySem.W.Frag) (mg : Str → Option Value) (x : Str) (st : Stmt) (ps : List Str) : Prop where
  ex : ∃ (f : Addr) (fd : FuncData), L2.Fun K x x st f fd ∧ mg x = some (.ref f) ∧ Binds K fd ps []
/-- .. whose code object stands at c, its table at P -/
structure Dc (K : PySem.W.Frag) (mg : Str → Option Value) (x : Str) (st : Stmt) (ps : List Str) (c : Addr) : Prop where
  ex : ∃ (f : Addr) (oc : Value) (od : Option Addr) (kV doc pm : Value) (an : Option Addr) (ct : Value) (osl : Array (Option Value)),
    K.lookup f = some ⟨oc, od, .func (PySem.W.fnOf x x (defArgs st) (defBody st) (defScope st) .none kV doc pm an (.ref c) ct), osl⟩ ∧ PySem.W.codeIn K (.ref c) x = true ∧ PySem.W.keepIn K (.ref f) = true ∧ mg x = some (.ref f) ∧
    Binds K (PySem.W.fnOf x x (defArgs st) (defBody st) (defScope st) .none kV doc pm an (.ref c) ct) ps []
structure DK (P : Program) (w : World) (K : PySem.W.Frag) (mg : Str → Option Value) (base : Heap) (CX : CXT) (k : Nat) (x : Str) (sp : Sp) : Prop where
  ex : ∃ (f : Addr) (fd : FuncData) (ps : List Str), FnOk P w K mg base CX k f fd ps sp ∧ mg x = some (.ref f) ∧ PySem.W.keepIn K (.ref f) = true ∧ Binds K fd ps []
section
variable {P : Program} {w : World} {K : PySem.W.Frag} {mg : Str → Option Value} {base : Heap} {x : Str} {st : Stmt} {N ps : List Str} {k : Nat} {sp : Sp} {c : Addr}
theorem Df.dk0 (D : Df K mg x st ps) (Sc : FnScope N ps (defScope st)) (len : ∀ vs H Q E, sp vs H Q E → vs.length = ps.length)
    (hb : ∀ (f : Addr) (cdv : Value) (A : Around) (outer : List Env) (s : Shared) (H : Hp) (vs : List V) (Q : VK) (E : XK), Room k (A.deeper (envOfC x (defScope st) s.heap.objs.size f cdv)) → sp vs H Q E →
      ∃ t, PSs (cxOf CX0 P w K mg base N x (defScope st) f cdv A outer s H E).nox (defBody st) t ∧ t { nx := fun _ H' => Q .non H', rt := Q } (start N vs) H) : DK P w K mg base CX0 (k + 1) x sp := by
  obtain ⟨f, fd, F, g, b⟩ := D.ex
  exact ⟨f, fd, ps, F.ok Sc len (hb f), g, F.kp, b⟩
theorem Df.dkX (D : Df K mg x st ps) (Sc : FnScope N ps (defScope st)) (len : ∀ vs H Q E, sp vs H Q E → vs.length = ps.length)
    (hb : ∀ (f : Addr) (cdv : Value) (A : Around) (outer : List Env) (s : Shared) (H : Hp) (vs : List V) (Q : VK) (E : XK), Room k (A.deeper (envOfC x (defScope st) s.heap.objs.size f cdv)) → sp vs H Q E →
      ∃ t, PSs (cxOf (L2.CX P w) P w K mg base N x (defScope st) f cdv A outer s H E) (defBody st) t ∧ t { nx := fun _ H' => Q .non H', rt := Q } (start N vs) H) : DK P w K mg base (L2.CX P w) (k + 1) x sp := by
  obtain ⟨f, fd, F, g, b⟩ := D.ex
  exact ⟨f, fd, ps, F.okX Sc len (hb f), g, F.kp, b⟩
theorem Dc.dk0 (D : Dc K mg x st ps c) (Sc : FnScope N ps (defScope st)) (len : ∀ vs H Q E, sp vs H Q E → vs.length = ps.length)
    (hb : ∀ (f : Addr) (A : Around) (outer : List Env) (s : Shared) (H : Hp) (vs : List V) (Q : VK) (E : XK), Room k (A.deeper (envOfC x (defScope st) s.heap.objs.size f (.ref c))) → sp vs H Q E →
      ∃ t, PSs (cxOf CX0 P w K mg base N x (defScope st) f (.ref c) A outer s H E).nox (defBody st) t ∧ t { nx := fun _ H' => Q .non H', rt := Q } (start N vs) H) : DK P w K mg base CX0 (k + 1) x sp := by
  obtain ⟨f, oc, od, kV, doc, pm, an, ct, osl, lk, hcd, kp, g, b⟩ := D.ex
  refine ⟨f, _, ps, fn_of lk hcd Sc len fun A outer s H vs Q E hr hsp => ?_, g, kp, b⟩
  obtain ⟨t, h, q⟩ := hb f A outer s H vs Q E hr hsp
  exact ⟨t, h.nox, q⟩
theorem Dc.dkX (D : Dc K mg x st ps c) (Sc : FnScope N ps (defScope st)) (len : ∀ vs H Q E, sp vs H Q E → vs.length = ps.length)
    (hb : ∀ (f : Addr) (A : Around) (outer : List Env) (s : Shared) (H : Hp) (vs : List V) (Q : VK) (E : XK), Room k (A.deeper (envOfC x (defScope st) s.heap.objs.size f (.ref c))) → sp vs H Q E →
      ∃ t, PSs (cxOf (L2.CX P w) P w K mg base N x (defScope st) f (.ref c) A outer s H E) (defBody st) t ∧ t { nx := fun _ H' => Q .non H', rt := Q } (start N vs) H) : DK P w K mg base (L2.CX P w) (k + 1) x sp := by
  obtain ⟨f, oc, od, kV, doc, pm, an, ct, osl, lk, hcd, kp, g, b⟩ := D.ex
  exact ⟨f, _, ps, fn_of lk hcd Sc len (hb f), g, kp, b⟩
end
section
variable {X : Cx} {CX : CXT} {k j : Nat} {x : Str} {sp : Sp} {E : XK} {p pos : Pos} {e : Expr} {es : List Expr} {t : TA}
/-- a call of a def under its name -/
theorem pe_d (c : DK X.prog X.w X.K X.mg X.base CX k x sp) (hr : Room j X.A) (hk : k ≤ j) (hg : Gl X x) (hx : Passes CX X E) (ha : PA X (e :: es) t)
    (hdb : (x == ("__debug__" : Str)) = false := by decide) (he : starEach (e :: es) X.env = (false, eval e X.env) :: starEach es X.env := by rfl) (hpl : (backTo pos (starEach es X.env)).any (·.1) = false := by rfl) :
    PE X (.Call (.Name x p) (e :: es) [] pos) (tCall sp [] E t) := by
  obtain ⟨f, fd, ps, F, hm, hkp, hb⟩ := c.ex
  exact pe_call F (hr.mono hk) hg hm hkp hb .nil hx ha hdb he hpl
end
/-- the wish of a def that may raise is taken by its own frame -/
theorem passE {P : Program} {w : World} {K : PySem.W.Frag} {mg : Str → Option Value} {base : Heap} {N : List Str} {q : Str} {sc : Scope} {f : Addr} {cd : Value} {A : Around} {outer : List Env} {s : Shared} {H : Hp} {E : XK} :
    Passes (L2.CX P w) (cxOf (L2.CX P w) P w K mg base N q sc f cd A outer s H E) E := passes_call (takes_of rfl rfl rfl rfl) fun _ _ _ _ h => h
/-! ### small rules -/
section
variable {X : Cx}
/-- 'text' * number -/
def rMulS : R2 := fun x y H Q => ∃ (z : Str) (n : Int), x = .str z ∧ y = .int n ∧ 0 ≤ n ∧ n ≤ 100 ∧ z.length ≤ 100 ∧ Q (.str (S (List.replicate n.toNat z.cps.toList).flatten)) H
theorem rep_cps (c : Array Nat) : ∀ (k : Nat) (acc : Array Nat), ((List.replicate k c).foldl (· ++ ·) acc).toList = acc.toList ++ (List.replicate k c.toList).flatten
  | 0, acc => by simp
  | k + 1, acc => by
    rw [List.replicate_succ, List.foldl_cons, rep_cps c k, List.replicate_succ, List.flatten_cons, Array.toList_append, List.append_assoc]
theorem op_mulS : OpR X (binaryOp .Mult) rMulS := by
  intro pins s σ H x y v u Q I rx ry h
  obtain ⟨z, n, rfl, rfl, h0, h1, hz, q⟩ := h
  obtain ⟨t, rfl⟩ := rx
  obtain ⟨t', rfl⟩ := ry
  have hlen : z.length * n.toNat ≤ 10000 := by
    have h100 : n.toNat ≤ 100 := by omega
    calc z.length * n.toNat ≤ 100 * 100 := Nat.mul_le_mul hz h100
      _ = 10000 := rfl
  refine PySem.P.mul_str ?_ (fun hn _ => ?_) (fun _ _ => ?_) ?_
  · rw [decide_eq_false (by omega), decide_eq_false (by omega)]
    rfl
  · intro hc
    have h2 : (100 : Int) ≤ (2 ^ 63 - 1) / n := by
      rw [Int.le_ediv_iff_mul_le (by omega)]
      omega
    omega
  · unfold Builtin.Str.tooLong
    rw [decide_eq_false_iff_not]
    rw [sizeLine_eq]
    omega
  · have fin : ∀ (w : Str) (k : Nat), w = S (List.replicate n.toNat z.cps.toList).flatten → EP X pins σ Q (.str w k) { s with toks := s.toks + 1 } := fun w k e => by
      rw [e]
      exact ⟨.str _, H, I.tok _, ⟨_, rfl⟩, q⟩
    by_cases c1 : n < 1
    · rw [if_pos c1]
      refine ⟨by decide, fin _ _ ?_⟩
      have : n.toNat = 0 := by omega
      rw [this]
      rfl
    · rw [if_neg c1]
      by_cases c2 : (n == 1 || z.length == 0) = true
      · rw [if_pos c2]
        have e : z = S (List.replicate n.toNat z.cps.toList).flatten := by
          refine TL.ext_tl ?_
          rw [Bool.or_eq_true] at c2
          show z.cps.toList = (List.replicate n.toNat z.cps.toList).flatten
          rcases c2 with c2 | c2
          · have : n.toNat = 1 := by
              have : n = 1 := by simpa using c2
              omega
            rw [this]
            simp
          · have hz0 : z.cps.toList = [] := by
              have : z.length = 0 := by simpa using c2
              rw [TL.len_tl] at this
              exact List.length_eq_zero_iff.mp this
            rw [hz0]
            simp
        refine ⟨.str z, H, I, ⟨_, rfl⟩, ?_⟩
        have eq : Q (.str z) H = Q (.str (S (List.replicate n.toNat z.cps.toList).flatten)) H := congrArg (fun w => Q (.str w) H) e
        rw [eq]
        exact q
      · rw [if_neg c2]
        refine ⟨?_, fin _ _ ?_⟩
        · rw [sizeLine_eq]
          show Array.size _ ≤ 16777216
          have : ((List.replicate n.toNat z.cps).foldl (· ++ ·) #[]).size = z.length * n.toNat := by
            rw [← Array.length_toList, rep_cps]
            simp
            rw [Nat.mul_comm]
            rfl
          rw [this]
          omega
        · refine TL.ext_tl ?_
          show ((List.replicate n.toNat z.cps).foldl (· ++ ·) #[]).toList = _
          rw [rep_cps]
          simp
end
end HK
set_option Elab.async false
set_option linter.all false
set_option maxRecDepth 100000
/-! What the program's top leaves, as the defs' proofs take it. Printed by mkfacts.py. -/
namespace HK
open PySem PySem.Spec PyProof.Rows L2 SX
/-- where things stand: the tuple ASKING, the classes BadLine and BadString, BadLine's __init__, the code objects and their tables -/
structure Ad where
  aA : Addr
  CB : Addr
  CS : Addr
  fI : Addr
  cT : Addr
  pT : Addr
  cS : Addr
  pS : Addr
  cI : Addr
  pI : Addr
  cW : Addr
  pW : Addr
  cL : Addr
  pL : Addr
/-- the tables of the defs that hold generator expressions -/
abbrev Ad.T (d : Ad) : List Addr := [d.pT, d.pS, d.pI, d.pW]
structure Tx (K : PySem.W.Frag) (mg : Str → Option Value) (d : Ad) : Prop where
  f_isinstance : mg "isinstance" = none
  f_int : mg "int" = none
  f_bool : mg "bool" = none
  f_str : mg "str" = none
  f_tuple : mg "tuple" = none
  f_list : mg "list" = none
  f_len : mg "len" = none
  f_all : mg "all" = none
  f_zip : mg "zip" = none
  f_sorted : mg "sorted" = none
  f_range : mg "range" = none
  f_set : mg "set" = none
  f_enumerate : mg "enumerate" = none
  f_min : mg "min" = none
  c_LEAST_PLACES : ∃ u, mg "LEAST_PLACES" = some u ∧ RelV (.int 2) u
  c_MOST_PLACES : ∃ u, mg "MOST_PLACES" = some u ∧ RelV (.int 7) u
  c_MOST_KEPT : ∃ u, mg "MOST_KEPT" = some u ∧ RelV (.int 6000) u
  c_GREATEST : ∃ u, mg "GREATEST" = some u ∧ RelV (.int 1000000) u
  c_FIGURES : ∃ u, mg "FIGURES" = some u ∧ RelV (.str "0123456789") u
  c_ASKING : ∃ u, mg "ASKING" = some u ∧ RelV (.ref d.aA) u
  t_ASKING : ∀ H, SqT K H d.aA [.str "get", .str "plus", .str "minus", .str "set"]
  d_is_number : Df K mg "is_number" s_is_number p_is_number
  d_are_ties : Dc K mg "are_ties" s_are_ties p_are_ties d.cT
  d_need_yard : Df K mg "need_yard" s_need_yard p_need_yard
  d_near : Df K mg "near" s_near p_near
  d_hanging : Df K mg "hanging" s_hanging p_hanging
  d_need_standing : Dc K mg "need_standing" s_need_standing p_need_standing d.cS
  d_is_instruction : Dc K mg "is_instruction" s_is_instruction p_is_instruction d.cI
  d_need_rows : Df K mg "need_rows" s_need_rows p_need_rows
  d_need_number : Df K mg "need_number" s_need_number p_need_number
  d_words_in : Df K mg "words_in" s_words_in p_words_in
  d_whole_in : Dc K mg "whole_in" s_whole_in p_whole_in d.cW
  d_need_text : Df K mg "need_text" s_need_text p_need_text
  d_lines_in : Df K mg "lines_in" s_lines_in p_lines_in
  d_taken : Df K mg "taken" s_taken p_taken
  d_need_end : Df K mg "need_end" s_need_end p_need_end
  d_write_yard : Df K mg "write_yard" s_write_yard p_write_yard
  d_number_line : Df K mg "number_line" s_number_line p_number_line
  d_read_yard : Df K mg "read_yard" s_read_yard p_read_yard
  d_standing_text : Df K mg "standing_text" s_standing_text p_standing_text
  d_write_standing : Df K mg "write_standing" s_write_standing p_write_standing
  d_read_standing : Df K mg "read_standing" s_read_standing p_read_standing
  d_write_program : Df K mg "write_program" s_write_program p_write_program
  d_instruction_in : Df K mg "instruction_in" s_instruction_in p_instruction_in
  d_read_program : Df K mg "read_program" s_read_program p_read_program
  d_law_taken : Df K mg "_law_taken" s_law_taken p_law_taken
  d_law_pick : Df K mg "_law_pick" s_law_pick p_law_pick
  d_law_alike : Df K mg "_law_alike" s_law_alike p_law_alike
  d_law_yard : Df K mg "_law_yard" s_law_yard p_law_yard
  d_law_standing : Df K mg "_law_standing" s_law_standing p_law_standing
  d_law_program : Df K mg "_law_program" s_law_program p_law_program
  d_law_kept : Df K mg "_law_kept" s_law_kept p_law_kept
  d_law_said_session : Df K mg "_law_said_session" s_law_said_session p_law_said_session
  d_law_loose : Df K mg "_law_loose" s_law_loose p_law_loose
  d_law_bent : Df K mg "_law_bent" s_law_bent p_law_bent
  d_law_line : Df K mg "_law_line" s_law_line p_law_line
  d_law : Dc K mg "law" s_law p_law d.cL
  gB : mg "BadLine" = some (.ref d.CB)
  oB : OexC K d.CB
  iB : PySem.W.findIn K (.ref d.CB) "__init__" = some (some (.ref d.fI))
  tI : PySem.W.typeIn K (.ref d.fI) = some (.type "function")
  FI : ∃ fd : FuncData, L2.Fun K "__init__" "BadLine.__init__" (inClass (topS 7) 0) d.fI fd ∧ Binds K fd ["self", "line", "place"] []
  nL : PySem.W.findIn K (.ref d.CB) "line" = some none
  nP : PySem.W.findIn K (.ref d.CB) "place" = some none
  xB : XfC K d.CB
  gS : mg "BadString" = some (.ref d.CS)
  eS : PySem.W.excIn K d.CS [.type "ValueError", .type "Exception", .type "BaseException", .type "object"] "ValueError.__new__" = true
  kS : PySem.W.keepIn K (.ref d.CS) = true
  bS : PySem.W.subIn K (.ref d.CS) (.type "BaseException") = some true
  yS : PySem.W.typeIn K (.ref d.CS) = some (.type "type")
  mBB : PySem.W.exmOne K (.ref d.CB) (.ref d.CB) = some true
  mSB : PySem.W.exmOne K (.ref d.CS) (.ref d.CB) = some false
  mSS : PySem.W.exmOne K (.ref d.CS) (.ref d.CS) = some true
/-- the code objects and their tables over the base -/
structure Tbs (base : Heap) (mg : Str → Option Value) (d : Ad) : Prop where
  tT : GxR.TabB base mg d.cT d.pT
  tS : GxR.TabB base mg d.cS d.pS
  tI : GxR.TabB base mg d.cI d.pI
  tW : GxR.TabB base mg d.cW d.pW
  tL : GxR.TabB base mg d.cL d.pL
end HK
set_option Elab.async false
set_option linter.all false
set_option maxRecDepth 100000
/-! The layer's rules with the written part K said by name (within a comprehension's block the context's own K hangs on the block). -/
namespace HK
open PySem PySem.Spec PyProof.Rows L2 SX
section
variable {X : Cx} (K : PySem.W.Frag) (hK : X.K = K)
include hK
theorem pg_tupK {es : List Expr} {k : Nat} {t : TGs} {n : Nat} {pos : Pos} (hc : X.calm = true) (h : PGs X es t)
    (hn : (assignEach es X.env).length = n := by rfl) (hst : (assignEach es X.env).findIdx? (·.1) = none := by rfl) : PG X (.Tuple es k pos) (gTup K n t) := by
  subst hK
  exact pg_tup hc h hn hst
theorem pi_listK {tg l : Expr} {tl : TE} (hl : PE X l tl) : PI X tg l (iList K tl) := by
  subst hK
  exact pi_list hl
theorem pi_tupK {tg l : Expr} {tl : TE} (hl : PE X l tl) : PI X tg l (iTup K tl) := by
  subst hK
  exact pi_tup hl
theorem pi_enumK {e : Expr} {ta : TA} {p pos tpos : Pos} {elts : List Expr} {kk : Nat} (hg : Gl X "enumerate") (hm : X.mg "enumerate" = none) (ha : PA X [e] ta) (hs : starEach [e] X.env = [(false, eval e X.env)] := by rfl) :
    PI X (.Tuple elts kk tpos) (.Call (.Name "enumerate" p) [e] [] pos) (iEnum K ta) := by
  subst hK
  exact pi_enum hg hm ha hs
theorem pi_zipK {e e2 : Expr} {ta : TA} {p pos tpos : Pos} {elts : List Expr} {kk : Nat} (hg : Gl X "zip") (hm : X.mg "zip" = none) (ha : PA X [e, e2] ta)
    (hs : starEach [e, e2] X.env = (false, eval e X.env) :: starEach [e2] X.env := by rfl) (hpl : (backTo pos (starEach [e2] X.env)).any (·.1) = false := by rfl) :
    PI X (.Tuple elts kk tpos) (.Call (.Name "zip" p) [e, e2] [] pos) (iZip K ta) := by
  subst hK
  exact pi_zip hg hm ha hs hpl
/-- an expression as a test, by its truth -/
def tTru (K : PySem.W.Frag) (ta : TE) : TT := fun σ H Q => ta σ H fun x H' => ∃ k, TruV K x H' k ∧ Q k H'
theorem pt_truthK {a : Expr} {ta : TE} (ha : PE X a ta) (he : ∀ whole, isTrue a X.env whole = (do let v ← whole; standAt a.pos; holding [v] (truthy v))) : PT X a (tTru K ta) := by
  subst hK
  exact pt_truth ha he
def rLenK (K : PySem.W.Frag) : List V → Hp → VK → Prop := fun xs H Q => ∃ x n, xs = [x] ∧ LenV K x H n ∧ Q (.int n) H
theorem call_lenK : CallR X (.builtin "len") (rLenK K) := by
  subst hK
  exact call_len
theorem call_isiK' : CallR X (.builtin "isinstance") (rIsi K) := by
  subst hK
  exact call_isi
theorem call_isiTK : CallR X (.builtin "isinstance") (rIsiT K) := by
  subst hK
  exact call_isiT
def rTupOf (K : PySem.W.Frag) : List V → Hp → VK → Prop := fun xs H Q => ∃ p ys, xs = [.ref p] ∧ ((SqL K H p ys ∧ ∀ l, H l = none → Q (.ref l) (upd H l (.tup ys))) ∨ (SqT K H p ys ∧ Q (.ref p) H))
theorem call_tupK : CallR X (.type "tuple") (rTupOf K) := by
  subst hK
  exact call_tuple_of
theorem cr_sortedK : CallR X (.builtin "sorted") (rSorted K) := by
  subst hK
  exact cr_sorted
theorem ix_seqK : IxR X (rIx K) := by
  subst hK
  exact ix_seq
theorem ix_listK : IxR X (rIxL K) := by
  subst hK
  exact ix_list
theorem ix_tupK : IxR X (rIxT K) := by
  subst hK
  exact ix_tup
theorem sl_listK : SlR X (rSlL K) := by
  subst hK
  exact sl_list
theorem sl_tupAK : SlR X (rSlA K) := by
  subst hK
  exact sl_tupA
theorem op_inK : OpR X (compareOp .In) (rIn K false) := by
  subst hK
  exact op_in_seq
theorem op_ninK : OpR X (compareOp .NotIn) (rIn K true) := by
  subst hK
  exact op_notIn_seq
theorem op_eqDK (hu : X.A.units + 64 < cLine) : OpR X (compareOp .Eq) (rEqD K) := by
  subst hK
  exact op_eqD hu
theorem op_neDK (hu : X.A.units + 64 < cLine) : OpR X (compareOp .NotEq) (rNeD K) := by
  subst hK
  exact op_neD hu
theorem op_leTK (hu : X.A.units < cLine) : OpR X (compareOp .LtE) (rLeT K) := by
  subst hK
  exact op_leT hu
def rJoin (K : PySem.W.Frag) : V → List V → Hp → VK → Prop := fun x xs H Q => ∃ a p, ∃ ys : List Str, x = .str a ∧ xs = [.ref p] ∧ (SqL K H p (ys.map V.str) ∨ SqT K H p (ys.map V.str)) ∧ (ys.map (·.length)).sum + ys.length * a.length ≤ 16777216 ∧ Q (.str (Txt.join a ys)) H
theorem pe_joinK {o e : Expr} {to te : TE} {apos pos : Pos} (ho : PE X o to) (he : PE X e te) (hs : starEach [e] X.env = [(false, eval e X.env)] := by rfl) (hbase : attributeBase o "join" X.env (eval o X.env) = eval o X.env := by rfl) (hline : (apos.endLine == pos.line) = true := by rfl) :
    PE X (.Call (.Attribute o "join" apos) [e] [] pos) (tM1 (rJoin K) to te) := by
  subst hK
  exact pe_join ho he hs hbase hline
end
end HK
set_option Elab.async false
set_option linter.all false
set_option maxRecDepth 100000
/-! Comprehensions and loops by what their list holds so far. -/
namespace HK
open PySem PySem.Spec PyProof.Rows L2 SX
theorem go_same {H H' : Hp} (s : Same H H') : Go [] H H' := ⟨fun _ z => (by simp at z), fun _ z => (by simp at z), fun b o _ h => s b o h⟩
theorem same_go {H H' : Hp} (g : Go [] H H') : Same H H' := fun b o h => g.keep b o (by simp) h
def hid (D : Addr) (H : Hp) : Hp := fun b => if b = D then none else H b
theorem hid_ne {D b : Addr} {H : Hp} (h : b ≠ D) : hid D H b = H b := if_neg h
theorem hid_upd {D : Addr} {H : Hp} {o : HO} : hid D (upd H D o) = hid D H := by
  funext b
  unfold hid
  by_cases h : b = D
  · rw [if_pos h, if_pos h]
  · rw [if_neg h, if_neg h, upd_ne h]
theorem hid_none {D : Addr} {H : Hp} (h : H D = none) : hid D H = H := by
  funext b
  unfold hid
  by_cases e : b = D
  · rw [if_pos e, e, h]
  · rw [if_neg e]
theorem tb_hid {T : List Addr} {D : Addr} {H : Hp} (t : Tb T H) (n : D ∉ T) : Tb T (hid D H) := fun P hP => by
  obtain ⟨ps, e, r⟩ := t P hP
  exact ⟨ps, by rw [hid_ne (fun z => n (by rw [← z]; exact hP))]; exact e, r⟩
theorem go_hid {T : List Addr} {D : Addr} {H H' : Hp} (g : Go T H H') (n : D ∉ T) : Go T (hid D H) (hid D H') := ⟨tb_hid g.t0 n, tb_hid g.t1 n, fun b o nb e => by
  by_cases h : b = D
  · rw [h] at e
    unfold hid at e
    rw [if_pos rfl] at e
    cases e
  · rw [hid_ne h] at e ⊢
    exact g.keep b o nb e⟩
theorem go_unhid {T : List Addr} {D : Addr} {H : Hp} (t : Tb T H) (n : D ∉ T) : Go T (hid D H) H := ⟨tb_hid t n, t, fun b o nb e => by
  by_cases h : b = D
  · rw [h] at e
    unfold hid at e
    rw [if_pos rfl] at e
    cases e
  · rw [hid_ne h] at e
    exact e⟩
section
variable {T : List Addr} {J : It} {n : Nat} {G : Hp → Prop} {Y : Nat → Hp → V → Hp → Prop}
theorem lc_acc (w : Walk J n G Y) {g : TG} {tt : TT} {te : TE} {vs : List Nat} {σ : L2.St} {H1 : Hp} {D : Addr} {Qd : Hp → Prop} (t : Tb T H1) (nD : H1 D = none) (hG : ∀ H', Go T H1 H' → G H')
    (hY : ∀ i H x H', Y i H x H' → ∀ b o, H b = some o → H' b = some o) (hn : n ≤ 100000)
    (Acc : Nat → List V → Hp → Prop) (mono : ∀ i acc H H', Go T H H' → Acc i acc H → Acc i acc H') (h0 : Acc 0 [] H1)
    (hs : ∀ i x H H' acc (Post : Option V → Hp → Prop), i < n → Go T H1 H → H D = some (.lst acc) → Acc i acc (hid D H) → Y i H x H' → Go T H H' →
      (∀ H2 o, Go T H H2 → Acc (i + 1) (acc ++ o.toList) (hid D H2) → Post o H2) →
      g x (wipe σ vs) H' fun σ2 H2 => wipe σ2 vs = wipe σ vs ∧ tt σ2 H2 fun b H3 => if b = true then te σ2 H3 fun y H4 => Post (some y) H4 else Post none H3)
    (hd : ∀ H' acc, Go T H1 H' → H' D = some (.lst acc) → Acc n acc H' → Acc n acc (hid D H') → Qd H') :
    ∃ W : Nat → Nat → Hp → Prop, (∃ m, W 0 m (upd H1 D (.lst []))) ∧ ∀ i m H, W i m H →
      (J.stop i H ∧ Qd H) ∨ (J.go i H ∧ ∃ Nx : Hp → Prop, (∀ H', Nx H' → ∃ m', m' < m ∧ W (i + 1) m' H') ∧ ∀ x H', J.yld i H x H' → g x (wipe σ vs) H' fun σ2 H2 => wipe σ2 vs = wipe σ vs ∧ tt σ2 H2 fun b H3 =>
        if b = true then te σ2 H3 fun y H4 => ∃ acc, H4 D = some (.lst acc) ∧ acc.length < sizeLine ∧ Nx (upd H4 D (.lst (acc ++ [y]))) else Nx H3) := by
  have nT := t.nofree nD
  refine lc_it w (fun i H => ∃ acc, H D = some (.lst acc) ∧ acc.length ≤ i ∧ Go T H1 H ∧ Acc i acc (hid D H)) ⟨[], upd_same, Nat.zero_le _, Go.new t nD, ?_⟩ (fun i H _ p => ?_) (fun i x H H' hi p y => ?_) fun H p => ?_
  · rw [hid_upd, hid_none nD]
    exact h0
  · obtain ⟨acc, _, _, go, _⟩ := p
    exact hG H go
  · obtain ⟨acc, hD, hlen, go, ha⟩ := p
    have gY : Go T H H' := Go.same go.t1 (hY i H x H' y)
    have := hs i x H H' acc (fun o H2 => match o with
      | some y => ∃ acc, H2 D = some (.lst acc) ∧ acc.length < sizeLine ∧ ∃ acc', (upd H2 D (.lst (acc ++ [y]))) D = some (.lst acc') ∧ acc'.length ≤ i + 1 ∧ Go T H1 (upd H2 D (.lst (acc ++ [y]))) ∧ Acc (i + 1) acc' (hid D (upd H2 D (.lst (acc ++ [y]))))
      | none => ∃ acc', H2 D = some (.lst acc') ∧ acc'.length ≤ i + 1 ∧ Go T H1 H2 ∧ Acc (i + 1) acc' (hid D H2)) hi go hD ha y gY (fun H2 o g2 a2 => ?_)
    · exact this
    · cases o with
      | some y =>
        refine ⟨acc, g2.lst hD, by rw [sizeLine_eq]; omega, acc ++ [y], upd_same, by simp; omega, (go.trans g2).put nD, ?_⟩
        rw [hid_upd]
        exact a2
      | none =>
        refine ⟨acc, g2.lst hD, by omega, go.trans g2, ?_⟩
        simpa using a2
  · obtain ⟨acc, hD, hlen, go, ha⟩ := p
    exact hd H acc go hD (mono n acc _ _ (go_unhid go.t1 nT) ha) ha
end
theorem range_get {α : Type} (F : α → Option V) : ∀ (l : List α), (List.range l.length).filterMap (fun i => (l[i]?).bind F) = l.filterMap F := by
  intro l
  have key : ∀ k, k ≤ l.length → (List.range k).filterMap (fun i => (l[i]?).bind F) = (l.take k).filterMap F := by
    intro k
    induction k with
    | zero => intro _; simp
    | succ k ih =>
      intro hk
      have hx : l[k]? = some l[k] := List.getElem?_eq_getElem (by omega)
      rw [List.range_succ, List.filterMap_append, ih (by omega), List.take_succ, List.filterMap_append, hx]
      simp only [Option.toList]
      congr 1
      cases e : F l[k] with
      | none => simp [e, hx]
      | some z => simp [e, hx]
  have := key l.length (Nat.le_refl _)
  rw [List.take_length] at this
  exact this
/-- elements that are told by plain values -/
theorem lc_val {T : List Addr} {n : Nat} {J : It} {G : Hp → Prop} {Y : Nat → Hp → V → Hp → Prop} (w : Walk J n G Y) {g : TG} {tt : TT} {te : TE} {vs : List Nat} {σ : L2.St} {H1 : Hp} {D : Addr} {Qd : Hp → Prop} (t : Tb T H1) (nD : H1 D = none) (hG : ∀ H', Go T H1 H' → G H')
    (hY : ∀ i H x H', Y i H x H' → ∀ b o, H b = some o → H' b = some o) (hn : n ≤ 100000) (f : Nat → Option V)
    (hs : ∀ i y H H' (Post : Option V → Hp → Prop), i < n → Go T H1 H → Y i H y H' → Go T H H' → (∀ H2, Go T H H2 → Post (f i) H2) →
      g y (wipe σ vs) H' fun σ2 H2 => wipe σ2 vs = wipe σ vs ∧ tt σ2 H2 fun b H3 => if b = true then te σ2 H3 fun y H4 => Post (some y) H4 else Post none H3)
    (hd : ∀ H', Go T H1 H' → H' D = some (.lst ((List.range n).filterMap f)) → Qd H') :
    ∃ W : Nat → Nat → Hp → Prop, (∃ m, W 0 m (upd H1 D (.lst []))) ∧ ∀ i m H, W i m H →
      (J.stop i H ∧ Qd H) ∨ (J.go i H ∧ ∃ Nx : Hp → Prop, (∀ H', Nx H' → ∃ m', m' < m ∧ W (i + 1) m' H') ∧ ∀ x H', J.yld i H x H' → g x (wipe σ vs) H' fun σ2 H2 => wipe σ2 vs = wipe σ vs ∧ tt σ2 H2 fun b H3 =>
        if b = true then te σ2 H3 fun y H4 => ∃ acc, H4 D = some (.lst acc) ∧ acc.length < sizeLine ∧ Nx (upd H4 D (.lst (acc ++ [y]))) else Nx H3) := by
  refine lc_acc w t nD hG hY hn (fun i acc _ => acc = (List.range i).filterMap f) (fun _ _ _ _ _ h => h) rfl (fun i x H H' acc Post hi go hD ha y gy hp => ?_) (fun H' acc go hD ha _ => ?_)
  · refine hs i x H H' Post hi go y gy (fun H2 g2 => hp H2 _ g2 ?_)
    rw [ha, List.range_succ, List.filterMap_append]
    cases e : f i with
    | none => simp [e]
    | some z => simp [e]
  · subst ha
    exact hd H' go hD
theorem yat_same {xs : List V} : ∀ i H x H', YAt xs i H x H' → ∀ b o, H b = some o → H' b = some o := fun i H x H' y b o h => by
  rw [y.1]
  exact h
theorem yfn_same {f : Nat → V} : ∀ i H x H', YFn f i H x H' → ∀ b o, H b = some o → H' b = some o := fun i H x H' y b o h => by
  rw [y.1]
  exact h
theorem ypair_same {f g : Nat → Option V} : ∀ i H x H', YPair f g i H x H' → ∀ b o, H b = some o → H' b = some o := fun i H x H' y b o h => by
  obtain ⟨T, x, z, _, n, e, _⟩ := y
  rw [e, upd_ne (ne_of_none h n)]
  exact h
end HK
set_option Elab.async false
set_option linter.all false
set_option maxRecDepth 100000
set_option maxHeartbeats 1000000
namespace HK
open PySem PySem.Spec PyProof.Rows L2 SX
section
variable {P : Program} {w : World} {K : PySem.W.Frag} {mg : Str → Option Value} {base : Heap} {d : Ad}
def spIsNumber : Sp := fun vs H Q _ => ∃ v lo hi : Int, vs = [.int v, .int lo, .int hi] ∧ Q (.bl (decide (lo ≤ v) && decide (v ≤ hi))) H
theorem dk_is_number (T : Tx K mg d) : DK P w K mg base CX0 1 "is_number" spIsNumber := by
  refine T.d_is_number.dk0 sc_is_number (fun vs H Q E h => ?_) fun f cdv A outer s H vs Q E hr h => ?_
  · obtain ⟨_, _, _, rfl, _⟩ := h
    rfl
  · obtain ⟨v, lo, hi, rfl, q⟩ := h
    refine ⟨_, (pss_one (ps_ret (pe_and (pe_callB (call_isiK' K rfl) (by rfl) T.f_isinstance (by decide +kernel) (pa_cons (pv 0) (pa_cons (pe_bltn (v := .ty "int") rfl T.f_int (by decide +kernel) rfl) pa_nil))) (pe_and (pe_not (pe_callB (call_isiK' K rfl) (by rfl) T.f_isinstance (by decide +kernel) (pa_cons (pv 0) (pa_cons (pe_bltn (v := .ty "bool") rfl T.f_bool (by decide +kernel) rfl) pa_nil)))) (pe_one (pe_chain op_le op_le (pv 1) (pv 0) (pv 2))))))), ?_⟩
    refine ⟨_, rfl, .int v, .ty "int", .type "int", .type "int", true, rfl, .ty _, .base (.int v), kit_ty (by decide +kernel), true, rfl, iteT ?_⟩
    refine ⟨_, rfl, .int v, .ty "bool", .type "int", .type "bool", false, rfl, .ty _, .base (.int v), kit_ty (by decide +kernel), false, rfl, true, rfl, iteT ?_⟩
    refine ⟨_, rfl, _, rfl, lo, v, rfl, rfl, decide (lo ≤ v), rfl, ?_⟩
    refine ite2 (fun c => ?_) fun c => ?_
    · rw [c, Bool.true_and] at q
      exact ⟨_, rfl, v, hi, rfl, rfl, q⟩
    · have c' : decide (lo ≤ v) = false := by simpa using c
      rw [c', Bool.false_and] at q
      exact q
/-- number in range: nothing -/
def spNeedNumber : Sp := fun vs H Q _ => ∃ v lo hi : Int, vs = [.int v, .int lo, .int hi] ∧ lo ≤ v ∧ v ≤ hi ∧ Q .non H
theorem dk_need_number (T : Tx K mg d) : DK P w K mg base CX0 2 "need_number" spNeedNumber := by
  have d_is_number : DK P w K mg base CX0 1 "is_number" spIsNumber := dk_is_number T
  refine T.d_need_number.dk0 sc_need_number (fun vs H Q E h => ?_) fun f cdv A outer s H vs Q E hr h => ?_
  · obtain ⟨_, _, _, rfl, _⟩ := h
    rfl
  · obtain ⟨v, lo, hi, rfl, h1, h2, q⟩ := h
    refine ⟨_, (pss_one (ps_if (pt_not (pt_val (pe_d d_is_number hr (by decide) rfl pass0 (pa_cons (pv 0) (pa_cons (pv 1) (pa_cons (pv 2) pa_nil))))))
      (pss_one ps_never)
      pss_nil)), ?_⟩
    refine ⟨_, rfl, _, rfl, _, rfl, v, lo, hi, rfl, true, by rw [decide_eq_true h1, decide_eq_true h2]; rfl, iteF ?_⟩
    exact q
theorem lit_sp : (" " : Str) = S [32] := by decide +kernel
theorem lit_nl : ("\n" : Str) = S [10] := by decide +kernel
theorem split_sp (l : List Nat) : Txt.split (S l) (" " : Str) = (cutAt 32 l).map S := by
  rw [lit_sp, split_S (by simp) (by decide), spl_cut0]
theorem split_nl (l : List Nat) : Txt.split (S l) ("\n" : Str) = (cutAt 10 l).map S := by
  rw [lit_nl, split_S (by simp) (by decide), spl_cut0]
theorem S_len_le {l : List Nat} {n : Nat} (h : l.length ≤ n) : (S l).length ≤ n := by
  rw [S_len]
  exact h
/-- a new list of the line's words -/
def spWordsIn : Sp := fun vs H Q _ => ∃ l : List Nat, vs = [.str (S l)] ∧ l.length ≤ 100000 ∧ ∀ H' p, Same H H' → H p = none → H' p = some (.lst ((wordsL l).map wV)) → Q (.ref p) H'
theorem dk_words_in (T : Tx K mg d) : DK P w K mg base CX0 1 "words_in" spWordsIn := by
  refine T.d_words_in.dk0 sc_words_in (fun vs H Q E h => ?_) fun f cdv A outer s H vs Q E hr h => ?_
  · obtain ⟨_, rfl, _⟩ := h
    rfl
  · obtain ⟨l, rfl, hl, q⟩ := h
    refine ⟨_, (pss_one (ps_ret (by exact (pe_lc (own := [("word", 1)]) (by rfl) sc_words_in.nd (pi_listK K rfl (pe_split (pv 0) pe_str)) (blkOk_by (own := [("word", 1)]) (N := n_words_in) (sc := defScope s_words_in) (by decide +kernel)) (fun _ _ _ _ _ => by exact (pg_name (i := 1) sc_words_in.nd rfl (Or.inl rfl))) (fun _ _ _ _ _ => by exact (pts_one (pt_cmpR op_ne (pv 1) pe_str (nomark _)))) (fun _ _ _ _ _ => by exact (pv 1)))))), ?_⟩
    refine ⟨_, rfl, ⟨_, rfl⟩, S l, _, rfl, rfl, by decide +kernel, by rw [S_len, sizeLine_eq]; omega, fun p np => ?_⟩
    rw [split_sp]
    refine ⟨p, rfl, ⟨_, SqL.of upd_same⟩, fun D nD => ?_⟩
    have hpD : p ≠ D := ne_of_none upd_same nD
    refine lc_list (K := K) (a := p) (xs := ((cutAt 32 l).map S).map V.str) (fun i H' => Same H H' ∧ H' p = some (.lst (((cutAt 32 l).map S).map V.str)) ∧ H' D = some (.lst ((((cutAt 32 l).take i).filter fun w => !w.isEmpty).map wV))) ?_ (fun i H' _ h => SqL.of h.2.1) ?_ ?_
    · refine ⟨fun b o e => ?_, ?_, upd_same⟩
      · rw [upd_ne (ne_of_none (by rw [upd_ne (ne_of_none e np)]; exact e) nD), upd_ne (ne_of_none e np)]
        exact e
      · rw [upd_ne hpD]
        exact upd_same
    · intro i x H' hx ⟨h1, h2, h3⟩
      obtain ⟨c, hc, rfl⟩ : ∃ c, (cutAt 32 l)[i]? = some c ∧ x = .str (S c) := by
        rw [List.getElem?_map, List.getElem?_map] at hx
        cases e : (cutAt 32 l)[i]? with
        | none => rw [e] at hx; cases hx
        | some c => rw [e] at hx; exact ⟨c, rfl, (Option.some.inj hx).symm⟩
      have hi : i < (cutAt 32 l).length := (List.getElem?_eq_some_iff.mp hc).1
      have hlen := cutAt_length_le 32 l
      have et : (cutAt 32 l).take (i + 1) = (cutAt 32 l).take i ++ [c] := by
        rw [List.take_succ, hc]
        rfl
      refine ⟨rfl, _, rfl, rfl, _, rfl, ?_⟩
      have ec : (V.str (S c) = V.str (Str.ofString "")) ↔ c = [] := by
        have e0 : Str.ofString "" = S [] := by decide +kernel
        rw [e0]
        constructor
        · intro z
          exact S_inj (V.str.inj z)
        · intro z
          rw [z]
      by_cases hz : c = []
      · rw [decide_eq_true (ec.mpr hz)]
        refine iteF ⟨h1, h2, ?_⟩
        rw [et, List.filter_append, hz]
        simpa using h3
      · rw [decide_eq_false (fun z => hz (ec.mp z))]
        have hlt : ((((cutAt 32 l).take i).filter fun w => !w.isEmpty).map wV).length < sizeLine := by
          rw [List.length_map]
          have := List.length_filter_le (fun w : List Nat => !w.isEmpty) ((cutAt 32 l).take i)
          rw [List.length_take] at this
          rw [sizeLine_eq]
          omega
        refine iteT ⟨_, rfl, _, h3, hlt, ?_, ?_, ?_⟩
        · intro b o e
          rw [upd_ne (ne_of_none (by rw [upd_ne (ne_of_none e np)]; exact e) nD)]
          exact h1 b o e
        · rw [upd_ne hpD]
          exact h2
        · rw [upd_same, et, List.filter_append, List.map_append]
          have : c.isEmpty = false := by cases c with
            | nil => exact absurd rfl hz
            | cons a b => rfl
          simp [this, wV]
    · intro H' ⟨h1, h2, h3⟩
      refine q H' D h1 ?_ ?_
      · rw [upd_ne (Ne.symm hpD)] at nD
        exact nD
      · rw [h3, List.length_map, List.length_map, List.take_length]
        rfl
/-- sorted neighbours, as far as they are asked: which they are -/
def Adj (ts : List (Int × Int)) (p x : Int) : Prop := (x, p) ∈ ts ∨ (p, x) ∈ ts
def spNear (K : PySem.W.Frag) : Sp := fun vs H Q _ => ∃ (v : V) (ts : List (Int × Int)) (p : Int), vs = [v, .int p] ∧ Dp K H v (tiesD ts) ∧ ts.length < 30 ∧
  ∀ H' a (ns : List Int), Same H H' → H a = none → H' a = some (.lst (ns.map V.int)) → (∀ x, x ∈ ns ↔ Adj ts p x) → Q (.ref a) H'
theorem dk_near (T : Tx K mg d) : DK P w K mg base CX0 1 "near" (spNear K) := by
  refine T.d_near.dk0 sc_near (fun vs H Q E h => ?_) fun f cdv A outer s H vs Q E hr h => ?_
  · obtain ⟨_, _, _, rfl, _⟩ := h
    rfl
  · obtain ⟨v, ts, p, rfl, hv, hlen, q⟩ := h
    obtain ⟨a, xs, rfl, ha, hall⟩ := Dp.tup_inv hv
    refine ⟨_, (pss_cons (ps_set (i := 2) sc_near.nd rfl (Or.inl rfl) (pe_op op_cat (by exact (pe_lc (own := [("one", 3), ("other", 4)]) (by rfl) sc_near.nd (pi_tupK K rfl (pv 0)) (blkOk_by (own := [("one", 3), ("other", 4)]) (N := n_near) (sc := defScope s_near) (by decide +kernel)) (fun _ _ _ _ _ => by exact (pg_tupK K rfl (n := 2) (by rfl) (pgs_cons (pg_name (i := 3) sc_near.nd rfl (Or.inl rfl)) (pgs_cons (pg_name (i := 4) sc_near.nd rfl (Or.inl rfl)) pgs_nil)))) (fun _ _ _ _ _ => by exact (pts_one (pt_cmpR op_eq (pv 4) (pv 1) (nomark _)))) (fun _ _ _ _ _ => by exact (pv 3)))) (by exact (pe_lc (own := [("one", 3), ("other", 4)]) (by rfl) sc_near.nd (pi_tupK K rfl (pv 0)) (blkOk_by (own := [("one", 3), ("other", 4)]) (N := n_near) (sc := defScope s_near) (by decide +kernel)) (fun _ _ _ _ _ => by exact (pg_tupK K rfl (n := 2) (by rfl) (pgs_cons (pg_name (i := 3) sc_near.nd rfl (Or.inl rfl)) (pgs_cons (pg_name (i := 4) sc_near.nd rfl (Or.inl rfl)) pgs_nil)))) (fun _ _ _ _ _ => by exact (pts_one (pt_cmpR op_eq (pv 3) (pv 1) (nomark _)))) (fun _ _ _ _ _ => by exact (pv 4))))))
    (pss_one (ps_ret (pe_callB (cr_sortedK K rfl) (by rfl) T.f_sorted (by decide +kernel) (pa_cons (pv 2) pa_nil))))), ?_⟩
    have xlen : xs.length = ts.length := by
      have := DpAll.len hall
      simpa using this
    have t0 : ∀ H : Hp, Tb [] H := fun _ _ z => by simp at z
    have item : ∀ (H' : Hp) (i : Nat) (x : V), Go [] H H' → xs[i]? = some x → ∃ (b : Addr) (t : Int × Int), ts[i]? = some t ∧ x = .ref b ∧ SqT K H' b [.int t.1, .int t.2] := fun H' i x g hx => by
      obtain ⟨dd, e1, e2⟩ := DpAll.get' hall hx
      rw [List.getElem?_map] at e1
      cases e : ts[i]? with
      | none => rw [e] at e1; cases e1
      | some t =>
        rw [e] at e1
        have e3 : dd = tieD t := (Option.some.inj e1).symm
        subst e3
        obtain ⟨b, rfl, hb⟩ := Dp.pair_inv e2
        exact ⟨b, t, rfl, rfl, g.st hb⟩
    let F1 : Int × Int → Option V := fun t => if t.2 = p then some (.int t.1) else none
    let F2 : Int × Int → Option V := fun t => if t.1 = p then some (.int t.2) else none
    refine ⟨_, rfl, a, rfl, ⟨_, ha⟩, fun D nD => ?_⟩
    refine lc_val walk_tup (t0 _) nD (fun H' g => g.st ha) yat_same (by omega) (fun i => (ts[i]?).bind F1) (fun i x H' H'' Post hi go hy gy hp => ?_) (fun H1 g1 e1 => ?_)
    · obtain ⟨rfl, hx⟩ := hy
      obtain ⟨b, t, ht, rfl, hb⟩ := item H'' i x go hx
      refine ⟨b, _, rfl, hb, rfl, _, _, rfl, _, _, rfl, ⟨rfl, rfl, _, rfl, _, rfl, rfl, _, rfl, ?_⟩⟩
      have hp' := hp H'' (Go.refl (t0 _))
      rw [ht] at hp'
      by_cases c : t.2 = p
      · rw [decide_eq_true (show V.int t.2 = V.int p by rw [c])]
        refine iteT ⟨_, rfl, ?_⟩
        have e : (some t).bind F1 = some (V.int t.1) := by simp [F1, c]
        rw [e] at hp'
        exact hp'
      · rw [decide_eq_false (fun z => c (V.int.inj z))]
        have e : (some t).bind F1 = none := by simp [F1, c]
        rw [e] at hp'
        exact iteF hp'
    · rw [show xs.length = ts.length from xlen, range_get] at e1
      refine ⟨_, rfl, a, rfl, ⟨_, g1.st ha⟩, fun D2 nD2 => ?_⟩
      refine lc_val walk_tup (t0 _) nD2 (fun H' g => (g1.trans g).st ha) yat_same (by omega) (fun i => (ts[i]?).bind F2) (fun i x H' H'' Post hi go hy gy hp => ?_) (fun H2 g2 e2 => ?_)
      · obtain ⟨rfl, hx⟩ := hy
        obtain ⟨b, t, ht, rfl, hb⟩ := item H'' i x (g1.trans go) hx
        refine ⟨b, _, rfl, hb, rfl, _, _, rfl, _, _, rfl, ⟨rfl, rfl, _, rfl, _, rfl, rfl, _, rfl, ?_⟩⟩
        have hp' := hp H'' (Go.refl (t0 _))
        rw [ht] at hp'
        by_cases c : t.1 = p
        · rw [decide_eq_true (show V.int t.1 = V.int p by rw [c])]
          refine iteT ⟨_, rfl, ?_⟩
          have e : (some t).bind F2 = some (V.int t.2) := by simp [F2, c]
          rw [e] at hp'
          exact hp'
        · rw [decide_eq_false (fun z => c (V.int.inj z))]
          have e : (some t).bind F2 = none := by simp [F2, c]
          rw [e] at hp'
          exact iteF hp'
      · rw [show xs.length = ts.length from xlen, range_get] at e2
        let G1 : Int × Int → Option Int := fun t => if t.2 = p then some t.1 else none
        let G2 : Int × Int → Option Int := fun t => if t.1 = p then some t.2 else none
        have f1 : ts.filterMap F1 = (ts.filterMap G1).map V.int := by
          rw [List.map_filterMap]
          congr 1
          funext t
          simp only [F1, G1]
          split <;> rfl
        have f2 : ts.filterMap F2 = (ts.filterMap G2).map V.int := by
          rw [List.map_filterMap]
          congr 1
          funext t
          simp only [F2, G2]
          split <;> rfl
        rw [f1] at e1
        rw [f2] at e2
        have l1 := List.length_filterMap_le (f := G1) (l := ts)
        have l2 := List.length_filterMap_le (f := G2) (l := ts)
        refine ⟨D, D2, _, _, rfl, rfl, g2.lst e1, e2, by rw [List.length_map, List.length_map, sizeLine_eq]; omega, fun D3 nD3 => ?_⟩
        refine ⟨_, rfl, D3, ts.filterMap G1 ++ ts.filterMap G2, rfl, ?_, by rw [List.length_append]; omega, fun ns R perm _ nR => ?_⟩
        · rw [List.map_append]
          exact SqL.of upd_same
        · have g3 : Go [] H (upd (upd H2 D3 _) R (.lst (ns.map V.int))) := ((g1.trans g2).then nD3).then nR
          refine q _ R ns (same_go g3) (((g1.trans g2).then nD3).free nR) upd_same fun x => ?_
          rw [perm.mem_iff, List.mem_append, List.mem_filterMap, List.mem_filterMap]
          unfold Adj
          constructor
          · rintro (⟨t, ht, e⟩ | ⟨t, ht, e⟩)
            · simp only [G1] at e
              split at e
              · rename_i c
                have := Option.some.inj e
                left
                rw [← this, ← c]
                exact ht
              · cases e
            · simp only [G2] at e
              split at e
              · rename_i c
                have := Option.some.inj e
                right
                rw [← this, ← c]
                exact ht
              · cases e
          · rintro (h | h)
            · exact .inl ⟨_, h, by simp [G1]⟩
            · exact .inr ⟨_, h, by simp [G2]⟩
end
end HK
set_option Elab.async false
set_option linter.all false
set_option maxRecDepth 100000
set_option maxHeartbeats 1000000
namespace HK
open PySem PySem.Spec PyProof.Rows L2 SX
/-! ### hanging -/
def kd (ks : List Int) : List (Key × V) := ks.map fun k => ((Sum.inl k : Key), V.bl true)
theorem kd_val (ks : List Int) (x : Int) : (valV (kd ks) (Sum.inl x)).isSome = decide (x ∈ ks) := by
  induction ks with
  | nil => rfl
  | cons k ks ih =>
    by_cases e : k = x
    · rw [show kd (k :: ks) = ((Sum.inl k : Key), V.bl true) :: kd ks from rfl, valV_pos (show ((Sum.inl k : Key), V.bl true).1 = Sum.inl x by rw [e])]
      simp [e]
    · rw [show kd (k :: ks) = ((Sum.inl k : Key), V.bl true) :: kd ks from rfl, valV_neg (show ¬ ((Sum.inl k : Key), V.bl true).1 = Sum.inl x from fun z => e (Sum.inl.inj z)), ih]
      simp [Ne.symm e, eq_comm]
theorem kd_put {ks : List Int} {x : Int} (h : x ∉ ks) : putK (kd ks) (Sum.inl x) (.bl true) = kd (ks ++ [x]) := by
  unfold putK
  rw [valV_any, kd_val, decide_eq_false h, if_neg (by simp)]
  simp [kd]
def ends (s : Int) (ts : List (Int × Int)) : List Int := s :: ts.flatMap fun t => [t.1, t.2]
theorem ends_len (s : Int) (ts : List (Int × Int)) : (ends s ts).length = 1 + 2 * ts.length := by
  unfold ends
  induction ts with
  | nil => rfl
  | cons t ts ih =>
    simp only [List.flatMap_cons, List.length_cons, List.length_append] at ih ⊢
    simp at ih ⊢
    omega
theorem ends_adj {s : Int} {ts : List (Int × Int)} {x y : Int} (h : Adj ts x y) : y ∈ ends s ts := by
  unfold ends
  refine List.mem_cons_of_mem _ ?_
  rw [List.mem_flatMap]
  rcases h with h | h
  · exact ⟨_, h, by simp⟩
  · exact ⟨_, h, by simp⟩
theorem reach_adj {s : Int} {ts : List (Int × Int)} {x y : Int} (r : Reach ts s x) (h : Adj ts x y) : Reach ts s y := by
  rcases h with h | h
  · exact .bwd r h
  · exact .fwd r h
/-- between two layers: ks the places found, ls those that are still to be looked at -/
structure Bf (s : Int) (ts : List (Int × Int)) (ks ls : List Int) : Prop where
  nd : ks.Nodup
  sub : ∀ x ∈ ks, x ∈ ends s ts
  st : s ∈ ks
  re : ∀ x ∈ ks, Reach ts s x
  ly : ∀ x ∈ ls, x ∈ ks
  cl : ∀ x ∈ ks, x ∉ ls → ∀ y, Adj ts x y → y ∈ ks
/-- within a layer: the places of dn have been looked at, lt are the new ones -/
structure Bi (s : Int) (ts : List (Int × Int)) (ks ls dn lt : List Int) : Prop where
  nd : (ks ++ lt).Nodup
  sub : ∀ x ∈ ks ++ lt, x ∈ ends s ts
  st : s ∈ ks
  re : ∀ x ∈ ks ++ lt, Reach ts s x
  ly : ∀ x ∈ ls, x ∈ ks
  cl : ∀ x ∈ ks, x ∉ ls → ∀ y, Adj ts x y → y ∈ ks
  dl : ∀ x ∈ dn, ∀ y, Adj ts x y → y ∈ ks ++ lt
theorem Bf.len {s : Int} {ts : List (Int × Int)} {ks ls : List Int} (b : Bf s ts ks ls) : ks.length ≤ 1 + 2 * ts.length := by
  rw [← ends_len s ts]
  exact nodup_le b.nd b.sub
theorem Bi.len {s : Int} {ts : List (Int × Int)} {ks ls dn lt : List Int} (b : Bi s ts ks ls dn lt) : (ks ++ lt).length ≤ 1 + 2 * ts.length := by
  rw [← ends_len s ts]
  exact nodup_le b.nd b.sub
theorem Bf.into {s : Int} {ts : List (Int × Int)} {ks ls : List Int} (b : Bf s ts ks ls) : Bi s ts ks ls [] [] :=
  ⟨by simpa using b.nd, by simpa using b.sub, b.st, by simpa using b.re, b.ly, b.cl, fun _ h => by simp at h⟩
theorem Bi.out {s : Int} {ts : List (Int × Int)} {ks ls lt : List Int} (b : Bi s ts ks ls ls lt) : Bf s ts (ks ++ lt) lt :=
  ⟨b.nd, b.sub, List.mem_append_left _ b.st, b.re, fun x h => List.mem_append_right _ h, fun x hx hn y hy => by
    rcases List.mem_append.mp hx with h | h
    · by_cases hl : x ∈ ls
      · exact b.dl x hl y hy
      · exact List.mem_append_left _ (b.cl x h hl y hy)
    · exact absurd h hn⟩
theorem Bi.add {s : Int} {ts : List (Int × Int)} {ks ls dn lt : List Int} {x y : Int} (b : Bi s ts ks ls dn lt) (hx : x ∈ ls) (ha : Adj ts x y) (hn : y ∉ ks ++ lt) : Bi s ts ks ls dn (lt ++ [y]) := by
  have e : ks ++ (lt ++ [y]) = (ks ++ lt) ++ [y] := by simp
  refine ⟨?_, ?_, b.st, ?_, b.ly, b.cl, fun z hz v hv => ?_⟩
  · rw [e, List.nodup_append]
    exact ⟨b.nd, by simp, fun p hp q hq z => hn (by
      have : q = y := by simpa using hq
      rw [← this, ← z]
      exact hp)⟩
  · rw [e]
    intro z hz
    rcases List.mem_append.mp hz with h | h
    · exact b.sub z h
    · have : z = y := by simpa using h
      rw [this]
      exact ends_adj ha
  · rw [e]
    intro z hz
    rcases List.mem_append.mp hz with h | h
    · exact b.re z h
    · have : z = y := by simpa using h
      rw [this]
      exact reach_adj (b.re x (List.mem_append_left _ (b.ly x hx))) ha
  · rw [e]
    exact List.mem_append_left _ (b.dl z hz v hv)
theorem Bi.next {s : Int} {ts : List (Int × Int)} {ks ls dn lt : List Int} {x : Int} (b : Bi s ts ks ls dn lt) (h : ∀ y, Adj ts x y → y ∈ ks ++ lt) : Bi s ts ks ls (dn ++ [x]) lt :=
  ⟨b.nd, b.sub, b.st, b.re, b.ly, b.cl, fun z hz v hv => by
    rcases List.mem_append.mp hz with k | k
    · exact b.dl z k v hv
    · have : z = x := by simpa using k
      rw [this] at hv
      exact h v hv⟩
theorem Bf.done {s : Int} {ts : List (Int × Int)} {ks : List Int} (b : Bf s ts ks []) (x : Int) : x ∈ ks ↔ Reach ts s x := by
  constructor
  · exact b.re x
  · intro r
    induction r with
    | base => exact b.st
    | fwd _ hm ih => exact b.cl _ ih (by simp) _ (.inr hm)
    | bwd _ hm ih => exact b.cl _ ih (by simp) _ (.inl hm)
section
variable {P : Program} {w : World} {K : PySem.W.Frag} {mg : Str → Option Value} {base : Heap} {d : Ad}
/-- a new list of the places that hang together with s -/
def spHanging (K : PySem.W.Frag) : Sp := fun vs H Q _ => ∃ (n s : Int) (v u : V) (ts : List (Int × Int)), vs = [.int n, v, .int s, u] ∧ Dp K H v (tiesD ts) ∧ ts.length < 30 ∧ Dp K H u (.tuple []) ∧
  ∀ H' a (L : List Int), Same H H' → H a = none → H' a = some (.lst (L.map V.int)) → L.Nodup → (∀ x, x ∈ L ↔ Reach ts s x) → Q (.ref a) H'
/-- the while's state -/
def Wst (n s : Int) (v u : V) (ts : List (Int × Int)) (H : Hp) (F : Addr) (m : Nat) (σ : L2.St) (H' : Hp) : Prop :=
  ∃ (ks ls : List Int) (l : Addr) (v6 v7 v8 : Option V), σ = [some (.int n), some v, some (.int s), some u, some (.ref F), some (.ref l), v6, v7, v8] ∧ Go [] H H' ∧ H' F = some (.dK (kd ks)) ∧ H' l = some (.lst (ls.map V.int)) ∧ Bf s ts ks ls ∧
    m = (1 + 2 * ts.length - ks.length) * 2 + (if ls = [] then 0 else 1)
theorem dk_hanging (T : Tx K mg d) : DK P w K mg base CX0 2 "hanging" (spHanging K) := by
  have d_near : DK P w K mg base CX0 1 "near" (spNear K) := dk_near T
  refine T.d_hanging.dk0 sc_hanging (fun vs H Q E h => ?_) fun f cdv A outer st H vs Q E hr h => ?_
  · obtain ⟨_, _, _, _, _, rfl, _⟩ := h
    rfl
  · obtain ⟨n, s, v, u, ts, rfl, hv, hlen, hu, q⟩ := h
    obtain ⟨au, xu, rfl, hau, hxu⟩ := Dp.tup_inv hu
    have hxu := DpAll.nil_inv hxu
    subst hxu
    have t0 : ∀ H : Hp, Tb [] H := fun _ _ z => by simp at z
    refine ⟨_, (pss_cons (ps_par (i := 4) (j := 5) (by rfl) sc_hanging.nd rfl rfl (by decide) rfl rfl (pa_cons (pe_disp (pps_cons (pv 2) pe_bl pps_nil) (by rfl) (by rfl) (fun z => by cases z) (by decide)) (pa_cons (pe_lst (pa_cons (pv 2) pa_nil)) pa_nil)) (by rfl))
    (pss_cons (ps_while PassesOwn.never (pt_truthK K rfl (pv 5) (by intro _; rfl))
      (pss_cons (ps_set (i := 6) sc_hanging.nd rfl (Or.inl rfl) (pe_lst pa_nil))
      (pss_cons (ps_for PassesOwn.never rfl (pi_listK K rfl (pv 5)) (pg_name (i := 7) sc_hanging.nd rfl (Or.inl rfl))
        (pss_one (ps_for PassesOwn.never rfl (pi_listK K rfl (pe_d d_near hr (by decide) rfl pass0 (pa_cons (pv 1) (pa_cons (pv 7) pa_nil)))) (pg_name (i := 8) sc_hanging.nd rfl (Or.inl rfl))
          (pss_one (ps_if (PW.pt (pw_and (pt_cmpR (op_ninK K rfl) (pv 8) (pv 3) rfl) (pw_and1 (pt_cmp (pc_dnotin (hu_of hr) (pv 8) (pv 4)) rfl))))
            (pss_cons (ps_dput (hu_of hr) (pv 4) (pv 8) pe_bl rfl)
            (pss_one (ps_expr (pe_bm PySem.F.plainAttrs_list PySem.F.slot_list_append PySem.F.type_list_append mt_append (pv 6) (pa_cons (pv 8) pa_nil)))))
            pss_nil)))))
      (pss_one (ps_set (i := 5) sc_hanging.nd rfl (Or.inl rfl) (pv 6))))))
    (pss_one (ps_ret (pe_callB (call_sortedDI rfl) (by rfl) T.f_sorted (by decide +kernel) (pa_cons (pv 4) pa_nil)))))), ?_⟩
    intro F nF
    refine ⟨_, rfl, upd_same, [((Sum.inl s : Key), V.bl true)], rfl, (show (1 : Nat) ≤ 15 by decide), ?_⟩
    rw [upd_upd]
    refine ⟨_, rfl, (show (1 : Nat) ≤ sizeLine by decide), fun l nl => ?_⟩
    refine ⟨_, _, rfl, ?_⟩
    have hFl : F ≠ l := ne_of_none upd_same nl
    refine ⟨Wst n s v (.ref au) ts H F, ⟨_, [s], [s], l, none, none, none, rfl, ((Go.new (t0 _) nF).then nl), ?_, upd_same, ?_, rfl⟩, fun m σ H1 hW => ?_⟩
    · rw [upd_ne hFl]
      exact upd_same
    · exact ⟨by simp, fun x h => by
        have : x = s := by simpa using h
        rw [this]
        exact List.mem_cons_self .., by simp, fun x h => by
        have : x = s := by simpa using h
        rw [this]
        exact .base, fun x h => h, fun x h hn => absurd h hn⟩
    · obtain ⟨ks, ls, l, v6, v7, v8, rfl, g, hF, hl, B, hm⟩ := hW
      refine ⟨_, rfl, !(ls.map V.int).isEmpty, Or.inl ⟨_, SqL.of hl, rfl⟩, ?_⟩
      by_cases hls : ls = []
      · subst hls
        refine iteF ?_
        refine ⟨_, rfl, F, kd ks, ks, rfl, Rd.of hF, by simp [kd], ?_, fun ys R perm _ nR => ?_⟩
        · have := B.len
          omega
        · exact q _ R ys (same_go (g.then nR)) (g.free nR) upd_same (perm.nodup_iff.mpr B.nd) fun x => by rw [perm.mem_iff]; exact B.done x
      · have : (!(ls.map V.int).isEmpty) = true := by
          cases ls with
          | nil => exact absurd rfl hls
          | cons a b => rfl
        rw [this]
        refine iteT ?_
        refine ⟨fun σ' H' => ∃ m', m' < m ∧ Wst n s v (.ref au) ts H F m' σ' H', fun σ' H' z => z, ?_⟩
        refine ⟨(show (0 : Nat) ≤ sizeLine by decide), fun L6 nL => ?_⟩
        have hlL : l ≠ L6 := ne_of_none hl nL
        have hFL : F ≠ L6 := ne_of_none hF nL
        have hlF : l ≠ F := ne_of hl hF (by intro z; cases z)
        refine ⟨_, rfl, l, rfl, ⟨_, SqL.of (by rw [upd_ne hlL]; exact hl)⟩, ?_⟩
        have Bl := B.len
        refine for_list (K := K) (a := l) (xs := ls.map V.int) (fun i σ H2 => ∃ (lt : List Int) (w7 w8 : Option V), σ = [some (.int n), some v, some (.int s), some (.ref au), some (.ref F), some (.ref l), some (.ref L6), w7, w8] ∧ Go [] H H2 ∧ H2 F = some (.dK (kd (ks ++ lt))) ∧
          H2 l = some (.lst (ls.map V.int)) ∧ H2 L6 = some (.lst (lt.map V.int)) ∧ Bi s ts ks ls (ls.take i) lt) ⟨[], v7, v8, rfl, g.then nL, ?_, ?_, upd_same, ?_⟩ (fun i σ H2 _ h => ?_) ?_ ?_
        · rw [upd_ne hFL, List.append_nil]
          exact hF
        · rw [upd_ne hlL]
          exact hl
        · exact B.into
        · obtain ⟨_, _, _, _, _, _, h4, _⟩ := h
          exact SqL.of h4
        · rintro i y σ H2 hy ⟨lt, w7, w8, rfl, g2, hF2, hl2, hL2, B2⟩
          obtain ⟨x, hx, rfl⟩ : ∃ x, ls[i]? = some x ∧ y = .int x := by
            rw [List.getElem?_map] at hy
            cases e : ls[i]? with
            | none => rw [e] at hy; cases hy
            | some x => rw [e] at hy; exact ⟨x, rfl, (Option.some.inj hy).symm⟩
          have hxm : x ∈ ls := List.mem_of_getElem? hx
          have etake : ls.take (i + 1) = ls.take i ++ [x] := by
            rw [List.take_succ, hx]
            rfl
          refine ⟨_, rfl, _, rfl, v, ts, x, rfl, Dp.go g2 hv, hlen, fun H3 a2 ns s3 na ha2 hns => ?_⟩
          have g3 : Go [] H H3 := g2.trans (go_same s3)
          refine ⟨a2, rfl, ⟨_, SqL.of ha2⟩, ?_⟩
          have hL3 := s3 _ _ hL2
          have haL : a2 ≠ L6 := fun z => by rw [z, hL2] at na; cases na
          have haF : a2 ≠ F := fun z => by rw [z, hF2] at na; cases na
          have hLF : L6 ≠ F := Ne.symm hFL
          refine for_list (K := K) (a := a2) (xs := ns.map V.int) (fun j σ H4 => ∃ (lt : List Int) (w8 : Option V), σ = [some (.int n), some v, some (.int s), some (.ref au), some (.ref F), some (.ref l), some (.ref L6), some (.int x), w8] ∧ Go [] H H4 ∧ H4 F = some (.dK (kd (ks ++ lt))) ∧
            H4 l = some (.lst (ls.map V.int)) ∧ H4 L6 = some (.lst (lt.map V.int)) ∧ H4 a2 = some (.lst (ns.map V.int)) ∧ Bi s ts ks ls (ls.take i) lt ∧ ∀ y ∈ ns.take j, y ∈ ks ++ lt) ⟨lt, w8, rfl, g3, s3 _ _ hF2, s3 _ _ hl2, hL3, ha2, B2, by simp⟩ (fun j σ H4 _ h => ?_) ?_ ?_
          · obtain ⟨_, _, _, _, _, _, _, h4, _⟩ := h
            exact SqL.of h4
          · rintro j yv σ H4 hyv ⟨lt, w8, rfl, g4, hF4, hl4, hL4, ha4, B4, hns4⟩
            obtain ⟨y, hy, rfl⟩ : ∃ y, ns[j]? = some y ∧ yv = .int y := by
              rw [List.getElem?_map] at hyv
              cases e : ns[j]? with
              | none => rw [e] at hyv; cases hyv
              | some x => rw [e] at hyv; exact ⟨x, rfl, (Option.some.inj hyv).symm⟩
            have etk : ns.take (j + 1) = ns.take j ++ [y] := by
              rw [List.take_succ, hy]
              rfl
            have Bl4 := B4.len
            refine ⟨_, rfl, _, rfl, au, [], rfl, Or.inr (g4.st hau), rfl, rfl, true, rfl, iteT ?_⟩
            refine ⟨_, rfl, _, rfl, F, _, rfl, DGet.k (k := Sum.inl y) hF4, _, rfl, ?_⟩
            rw [kd_val]
            by_cases hmem : y ∈ ks ++ lt
            · rw [decide_eq_true hmem]
              refine iteF ⟨lt, some (.int y), rfl, g4, hF4, hl4, hL4, ha4, B4, fun z hz => ?_⟩
              rw [etk] at hz
              rcases List.mem_append.mp hz with h | h
              · exact hns4 z h
              · have : z = y := by simpa using h
                rw [this]
                exact hmem
            · rw [decide_eq_false hmem]
              refine iteT ?_
              refine ⟨_, rfl, _, rfl, F, _, rfl, DPut.k (k := Sum.inl y) hF4 (by rw [kd, List.length_map, sizeLine_eq]; omega), ?_⟩
              rw [kd_put hmem]
              refine ⟨_, rfl, Or.inl ⟨rfl, _, SqL.of (by rw [upd_ne hLF]; exact hL4)⟩, _, rfl, L6, _, _, rfl, rfl, by rw [upd_ne hLF]; exact hL4, ?_, ?_⟩
              · rw [List.length_map, sizeLine_eq]
                rw [List.length_append] at Bl4
                omega
              · have e1 : (ks ++ lt) ++ [y] = ks ++ (lt ++ [y]) := by simp
                refine ⟨lt ++ [y], some (.int y), rfl, (g4.put nF).put (g.free nL), ?_, ?_, ?_, ?_, B4.add hxm ((hns y).mp (List.mem_of_getElem? hy)) hmem, fun z hz => ?_⟩
                · rw [upd_ne hFL, upd_same, e1]
                · rw [upd_ne hlL, upd_ne hlF]
                  exact hl4
                · rw [upd_same, List.map_append]
                  rfl
                · rw [upd_ne haL, upd_ne haF]
                  exact ha4
                · rw [← e1]
                  rw [etk] at hz
                  rcases List.mem_append.mp hz with h | h
                  · exact List.mem_append_left _ (hns4 z h)
                  · exact List.mem_append_right _ h
          · rintro σ H4 ⟨lt, w8, rfl, g4, hF4, hl4, hL4, ha4, B4, hns4⟩
            rw [List.length_map, List.take_length] at hns4
            refine ⟨lt, some (.int x), w8, rfl, g4, hF4, hl4, hL4, ?_⟩
            rw [etake]
            exact B4.next fun y hy => hns4 y ((hns y).mpr hy)
        · rintro σ H2 ⟨lt, w7, w8, rfl, g2, hF2, hl2, hL2, B2⟩
          rw [List.length_map, List.take_length] at B2
          have Bl2 := B2.len
          rw [List.length_append] at Bl2
          refine ⟨_, rfl, _, ?_, ks ++ lt, lt, L6, some (.ref L6), w7, w8, rfl, g2, hF2, hL2, B2.out, rfl⟩
          rw [hm, if_neg hls, List.length_append]
          by_cases hlt : lt = []
          · rw [if_pos hlt, hlt]
            simp only [List.length_nil]
            omega
          · rw [if_neg hlt]
            have : 0 < lt.length := List.length_pos_iff.mpr hlt
            omega
end
end HK
set_option Elab.async false
set_option linter.all false
set_option maxRecDepth 100000
set_option maxHeartbeats 1000000
/-! The two errors: how they are made and raised. -/
namespace HK
open PySem PySem.Spec PyProof.Rows L2 SX
abbrev sInit : Stmt := inClass (topS 7) 0
theorem sc_init : FnScope ["self", "line", "place"] ["self", "line", "place"] (defScope sInit) := ⟨rfl, rfl, rfl, by decide +kernel, rfl, by decide +kernel, by decide +kernel⟩
/-- an exception at a gets its two fields -/
def spInit (C : Addr) : Sp := fun vs H Q _ => ∃ (a : Addr) (l p : V), vs = [.ref a, l, p] ∧ H a = some (exo a C none) ∧
  ∀ dx, H dx = none → dx ≠ a → Q .non (upd (upd (upd H dx (exd dx [("line", l)])) a (exo a C (some dx))) dx (exd dx [("place", p), ("line", l)]))
def badFs (l p : Int) : List (Str × V) := [("place", .int p), ("line", .int l)]
section
variable {P : Program} {w : World} {K : PySem.W.Frag} {mg : Str → Option Value} {base : Heap} {d : Ad}
theorem ok_init (T : Tx K mg d) {fd : FuncData} (F : L2.Fun K "__init__" "BadLine.__init__" sInit d.fI fd) : FnOk P w K mg base CX0 1 d.fI fd ["self", "line", "place"] (spInit d.CB) := by
  refine F.ok sc_init (fun vs H Q E h => ?_) fun cdv A outer s H vs Q E hr h => ?_
  · obtain ⟨_, _, _, rfl, _⟩ := h
    rfl
  · obtain ⟨a, l, p, rfl, ha, q⟩ := h
    refine ⟨_, pss_cons (ps_ost (pv 0) (pv 1)) (pss_one (ps_ost (pv 0) (pv 2))), ?_⟩
    refine ⟨_, rfl, _, rfl, a, d.CB, rfl, T.oB, T.nL, Or.inl ⟨ha, fun dx nd ne => ?_⟩⟩
    refine ⟨_, rfl, _, rfl, a, d.CB, rfl, T.oB, T.nP, Or.inr ⟨dx, [("line", l)], upd_same, ?_, (show (1 : Nat) ≤ 900 by decide), q dx nd ne⟩⟩
    rw [upd_ne ne]
    exact upd_same
end
section
variable {X : Cx} {W : WX} {x : Str} {e1 e2 : Expr} {p pos pos' : Pos} {ta : TA} {j : Nat}
/-- the wish may be weakened -/
def tClo (ta : TA) : TA := fun σ H R => ∃ R0, ta σ H R0 ∧ ∀ vs H1, R0 vs H1 → R vs H1
/-- raise BadLine(l, p) -/
def tBad (CB : Addr) (W : WX) (ta : TA) : TS := fun _ σ H => ta σ H fun vs H1 => ∃ l p : Int, vs = [.int l, .int p] ∧ ∀ H2 dx, Same H1 H2 → H1 dx = none → H2 dx = some (.xd (badFs l p)) → W (.ref CB) (some dx) σ H2
theorem ps_bad {d : Ad} (T : Tx X.K X.mg d) (hr : Room j X.A) (hj : 2 ≤ j) (hg : Gl X "BadLine") (hc : X.calm = true) (tk : Takes X W) (ha : PA X [e1, e2] ta)
    (he : starEach [e1, e2] X.env = (false, eval e1 X.env) :: starEach [e2] X.env := by rfl) (hpl : (backTo pos (starEach [e2] X.env)).any (·.1) = false := by rfl) :
    PS X (.Raise (some (.Call (.Name "BadLine" p) [e1, e2] [] pos)) none pos') (tBad d.CB W ta) := by
  obtain ⟨fd, F, hb⟩ := T.FI
  have ha' : PA X [e1, e2] (tClo ta) := ⟨fun pos pins s σ H R I h => by
    obtain ⟨R0, h0, h1⟩ := h
    exact thn (ha.run pos pins s σ H R0 I h0) fun us s1 ⟨vs, H1, I1, r1, q1⟩ => ⟨vs, H1, I1, r1, h1 vs H1 q1⟩⟩
  have mk := pmk_oex (X := X) (pos := pos) (p := p) T.oB T.iB T.tI (ok_init (P := X.prog) (w := X.w) (base := X.base) T F) (hr.mono hj) hb (ds := []) (dvs := []) .nil pass0 hg T.gB ha' (by decide) he hpl
  have r := ps_raise (pos := pos') hc tk mk
  refine ⟨fun pins s σ H D I h => r.run pins s σ H D I ?_⟩
  refine ⟨_, h, fun vs H1 ⟨l, p, ev, q⟩ => ?_⟩
  subst ev
  refine ⟨(show (2 : Nat) ≤ 1000 by decide), fun a na => ⟨a, .int l, .int p, rfl, upd_same, fun dx nd ne => ?_⟩⟩
  have n1 : H1 dx = none := by
    rw [upd_ne ne] at nd
    exact nd
  refine ⟨rfl, dx, badFs l p, ?_, upd_same, n1, ?_⟩
  · rw [upd_ne (Ne.symm ne)]
    exact upd_same
  · refine q _ dx (fun b o e => ?_) n1 upd_same
    have b1 : b ≠ a := ne_of_none e na
    have b2 : b ≠ dx := ne_of_none e n1
    rw [upd_ne b2, del_ne b1, upd_ne b2, upd_ne b1, upd_ne b2, upd_ne b1]
    exact e
/-- raise BadString() -/
theorem ps_bads {d : Ad} (T : Tx X.K X.mg d) (hg : Gl X "BadString") (hc : X.calm = true) (tk : Takes X W) :
    PS X (.Raise (some (.Call (.Name "BadString" p) [] [] pos)) none pos') (fun _ σ H => W (.ref d.CS) none σ H) := by
  refine ps_raise hc tk (t := fun _ H Q => Q (.ref d.CS) none H) ?_
  intro pins s σ H Q I h
  refine wpAny_Call_Name_kw (ld_glob I hg T.gS ?_ (by decide))
  refine PySem.W.callWith_K0 I.kIn T.kS ?_
  obtain ⟨bm, N, nm, qn, bs, hdct, sn, sub, ab, col, dd, k0, k1, k2, k3, k5, mN, hC, hN, hni, TT⟩ := exc_obj I.kIn T.eS
  refine wpAny_call_exc_subT PySem.F.excBase_ValueError TT hC hN hni (fun h' e hm => ?_) (Nat.zero_le _)
  exact mk_of I hm (raises_own T.bS T.yS) h (I.hok.gone hm.new)
end
end HK
set_option Elab.async false
set_option linter.all false
set_option maxRecDepth 100000
set_option maxHeartbeats 2000000
/-! all(test for x in things): things a text, a list, a tuple; the test may call a def. -/
namespace HK
open PySem PySem.Spec PyProof.Rows L2 SX
/-- what is walked when u is iterated: the values xs -/
def Iterates (X : Cx) (s1 : Shared) (u : Value) (xs : List V) : Prop :=
  ∀ (Q : Value → Shared → Prop) (E : Value → Shared → Prop),
    (∀ (o : Obj) (fp : List Addr) (Pf : Nat → Value → Prop) (St : Nat → Heap → Prop),
      (∀ A' : Around, A'.handled = none → Walks X.prog X.w A' s1.heap.objs.size fp [s1.heap.objs.size] xs.length Pf St) →
      St 0 (s1.heap.push o) → (∀ b ∈ fp, b = s1.heap.objs.size ∨ ∃ ob, s1.heap.get? b = some ob ∧ ob.cls ≠ .none) →
      (∀ i v, Pf i v → ∃ x, xs[i]? = some x ∧ RelV x v) → Q (.ref s1.heap.objs.size) { s1 with heap := s1.heap.push o }) →
    wpAny (model X.prog X.w) X.A (pyIter u) Q E s1
/-- each test's answer: of the value xs[i] it is bs[i] -/
def Elts (X : Cx) (s1 : Shared) (P : Addr) (scope : Scope) (x : Str) (elt : Expr) (xs : List V) (bs : List Bool) : Prop :=
  ∀ (cenv : Env) (A' : Around) (E' : Value → Shared → Prop) (i : Nat) (y : V) (b : Bool) (u : Value) (s2 : Shared) (m2 : Str → Option Value),
    cenv.scope = scope → cenv.globals = mainGlobals → cenv.builtins = builtinsNs → cenv.cells = cloFrom X.env.cells scope.names [] →
    A'.handled = none → A'.depth ≤ X.A.depth + 1 → A'.units ≤ X.A.units + 8 → xs[i]? = some y → bs[i]? = some b → RelV y u →
    s2.heap.Ns cenv.locals m2 → m2 x = some u → (∀ a o, a ≠ P → s1.heap.get? a = some o → s2.heap.get? a = some o) →
    wpAny (model X.prog X.w) A' (eval elt cenv) (fun z s3 => z = .bool b ∧ Keeps s2 s3) E' s2
section
variable {X : Cx} {pins : List (Addr × Obj)} {σ : L2.St} {H : Hp} {s : Shared}
theorem iter_list {l : Addr} {xs : List V} (I : L2.Inv X pins σ H s) (h : SqL X.K H l xs) : Iterates X s (.ref l) xs := by
  intro Q E hQ
  obtain ⟨its, rv, pl, hz⟩ := I.list h
  have hl := pl.isList
  have hlt : l < s.heap.objs.size := by
    obtain ⟨ob, e, _⟩ := id hl
    exact Heap.lt_size e
  have hlen : its.toArray.size = xs.length := by
    rw [List.size_toArray]
    exact rv.length.symm
  refine wpAny_pyIter_list hl ?_
  have W := fun (A' : Around) (hh : A'.handled = none) => Walks.list (prog := X.prog) (w := X.w) hh s.heap.objs.size l (Nat.ne_of_lt hlt) its.toArray
  rw [hlen] at W
  refine hQ _ _ _ _ W ⟨⟨_, Heap.get?_push_size _ rfl, rfl, rfl⟩, hl.push _⟩ (fun b hb => ?_) (fun i v hv => ?_)
  · rcases List.mem_cons.mp hb with e | hb
    · exact .inl e
    · have e : b = l := by simpa using hb
      obtain ⟨ob, h1, h2, _⟩ := id hl
      exact .inr ⟨ob, by rw [e]; exact h1, by rw [h2]; intro z; cases z⟩
  · have hv' : its[i]? = some v := by simpa using hv
    cases hx : xs[i]? with
    | none =>
      have := Vals.none_of rv hx
      rw [this] at hv'
      cases hv'
    | some y =>
      obtain ⟨w', h1, h2⟩ := Vals.get rv hx
      rw [h1] at hv'
      cases hv'
      exact ⟨y, rfl, h2⟩
theorem iter_tup {l : Addr} {xs : List V} (I : L2.Inv X pins σ H s) (h : SqT X.K H l xs) : Iterates X s (.ref l) xs := by
  intro Q E hQ
  obtain ⟨its, rv, hl, _⟩ := I.tuple h
  have ht : s.heap.IsTuple l its.toArray := hl
  have hlt : l < s.heap.objs.size := by
    obtain ⟨ob, e, _⟩ := id ht
    exact Heap.lt_size e
  have hlen : its.toArray.size = xs.length := by
    rw [List.size_toArray]
    exact rv.length.symm
  refine wpAny_pyIter_tuple ht ?_
  have W := fun (A' : Around) (hh : A'.handled = none) => Walks.tuple (prog := X.prog) (w := X.w) hh s.heap.objs.size l (Nat.ne_of_lt hlt) its.toArray
  rw [hlen] at W
  refine hQ _ _ _ _ W ⟨⟨_, Heap.get?_push_size _ rfl, rfl, rfl⟩, ht.push _⟩ (fun b hb => ?_) (fun i v hv => ?_)
  · rcases List.mem_cons.mp hb with e | hb
    · exact .inl e
    · have e : b = l := by simpa using hb
      obtain ⟨ob, h1, h2, _⟩ := id ht
      exact .inr ⟨ob, by rw [e]; exact h1, by rw [h2]; intro z; cases z⟩
  · have hv' : its[i]? = some v := by simpa using hv
    cases hx : xs[i]? with
    | none =>
      have := Vals.none_of rv hx
      rw [this] at hv'
      cases hv'
    | some y =>
      obtain ⟨w', h1, h2⟩ := Vals.get rv hx
      rw [h1] at hv'
      cases hv'
      exact ⟨y, rfl, h2⟩
theorem iter_str {z : Str} {t : Tok} : Iterates X s (.str z t) (z.cps.toList.map fun c => V.str ⟨#[c]⟩) := by
  intro Q E hQ
  refine wpAny_pyIter_str fun o St W h0 => ?_
  have hlen : (z.cps.toList.map fun c => V.str ⟨#[c]⟩).length = z.cps.size := by simp
  refine hQ o [s.heap.objs.size] (SignAt z) St ?_ h0 (fun b hb => .inl (by simpa using hb)) (fun i v hv => ?_)
  · rw [hlen]
    exact W
  · obtain ⟨c, u, h1, h2⟩ := hv
    refine ⟨.str ⟨#[c]⟩, ?_, u, h2⟩
    rw [List.getElem?_map, Array.getElem?_toList, h1]
    rfl
/-- the element's tests as one function of the turn -/
def trB (bs : List Bool) (j : Nat) : Bool := bs.getD j false
theorem all_trB (bs : List Bool) : (List.range bs.length).all (trB bs) = bs.all id := by
  rw [Bool.eq_iff_iff, List.all_eq_true, List.all_eq_true]
  constructor
  · intro h b hb
    obtain ⟨j, hj, e⟩ := List.getElem_of_mem hb
    have := h j (List.mem_range.mpr hj)
    unfold trB at this
    rw [List.getD_eq_getElem?_getD, List.getElem?_eq_getElem hj, e] at this
    exact this
  · intro h j hj
    have hj := List.mem_range.mp hj
    unfold trB
    rw [List.getD_eq_getElem?_getD, List.getElem?_eq_getElem hj]
    exact h _ (List.getElem_mem hj)
/-- the reading: R tells of the walked value v which things xs it holds, and each test's answer bs -/
def tAllG (P : Addr) (R : L2.St → Hp → V → List V → List Bool → Prop) (te : TE) : TE := fun σ H Q =>
  te σ H fun v H1 => ∃ xs bs, R σ H1 v xs bs ∧ GxR.TabG H1 P ∧ ∀ H2, GxR.Tabbed P H1 H2 → Q (.bl (bs.all id)) H2
theorem pe_allG {c P : Addr} {elt iter : Expr} {x : Str} {px p pos gpos : Pos} {scope : Scope} {te : TE} {k : Nat} (R : L2.St → Hp → V → List V → List Bool → Prop)
    (hr : Room k X.A) (hg : Gl X "all") (hm : X.mg "all" = none) (TB : GxR.TabB X.base X.mg c P) (hcode : X.env.code = .ref c) (S : GxR.GenS X.env scope x) (hi : PE X iter te)
    (hR : ∀ (pins : List (Addr × Obj)) (σ : L2.St) (H1 : Hp) (s1 : Shared) (v : V) (u : Value) (xs : List V) (bs : List Bool), L2.Inv X pins σ H1 s1 → RelV v u → R σ H1 v xs bs → bs.length = xs.length ∧ Iterates X s1 u xs ∧ Elts X s1 P scope x elt xs bs)
    (hs : ∀ v, genFold iter X.env v = pure v)
    (he : starEach [.GeneratorExp elt [⟨.Name x px, iter, [], 0⟩] scope gpos] X.env = (false, eval (.GeneratorExp elt [⟨.Name x px, iter, [], 0⟩] scope gpos) X.env) :: starEach [] X.env := by rfl) :
    PE X (.Call (.Name "all" p) [.GeneratorExp elt [⟨.Name x px, iter, [], 0⟩] scope gpos] [] pos) (tAllG P R te) := by
  refine ⟨fun pins s σ H Q I h => ?_⟩
  refine wpAny_Call_Name_kw (ld_blt I hg hm (by decide +kernel : bootBuiltins "all" = some (.builtin "all")) ?_)
  refine PyProof.Rows.callWith_builtin1 ?_ he (by rfl)
  rw [he]
  show wpAny _ _ (spliced ((false, eval (.GeneratorExp elt [⟨.Name x px, iter, [], 0⟩] scope gpos) X.env) :: backTo pos (starEach [] X.env))) _ _ s
  refine Calls.spliced_cons ?_
  have hdp := hr.dp
  refine wpAny_GeneratorExp_walksQD hr.hd S.co (closure_ok S.free) S.cell S.dot S.loc S.kind (by omega) ?_ hs
  refine thn (hi.run pins s σ H _ I h) fun xv s1 hx => ?_
  obtain ⟨v, H1, I1, rv, xs, bs, hRv, ⟨ps, hP, htr⟩, hq⟩ := hx
  obtain ⟨hlen, hit, hel⟩ := hR pins σ H1 s1 v xv xs bs I1 rv hRv
  refine hit _ _ fun o fp Pf St W st0 hfp hPf => ?_
  -- the table's object, the iterator pushed
  have hPs : s1.heap.get? P = some { cls := .none, data := .fields ps } := I1.hok P _ hP
  have hPl : P < s1.heap.objs.size := Heap.lt_size hPs
  have hP2 : (s1.heap.push o).get? P = some { cls := .none, data := .fields ps } := Heap.get?_push_of_some _ hPs
  have cd : PySem.W.CodeHd (s1.heap.push o) c P := TB.code.keeps fun b u e => Heap.get?_push_of_some _ (I1.bk b u e)
  have lim : (s1.heap.push o).NoLimit := I1.nolimit.push o
  have sz : (s1.heap.push o).objs.size = s1.heap.objs.size + 1 := Heap.size_push ..
  have fpP : ∀ b ∈ fp, b ≠ P := fun b hb z => by
    rcases hfp b hb with e | ⟨ob, e1, e2⟩
    · rw [z] at e
      rw [e] at hPl
      exact Nat.lt_irrefl _ hPl
    · rw [z, hPs] at e1
      have := Option.some.inj e1
      rw [← this] at e2
      exact e2 rfl
  refine ⟨lim, ?_⟩
  -- what follows, once the code object is there
  have go : ∀ (code : Value) (h3 : Heap) (tk : Nat) (more : Array Value), Heap.ExtBut P (s1.heap.push o) h3 → s1.heap.objs.size + 1 ≤ h3.objs.size →
      h3.get? P = some { cls := .none, data := .fields (ps ++ more) } → TriplesOk (ps ++ more).toList →
      wpAny (model X.prog X.w) X.A (builtinsFor X.env.globals X.env.builtins) (fun bi s4 =>
        ∃ I fp wr n₀ P St₀ pz F, Value.ref s1.heap.objs.size = .ref I ∧ (∀ A' : Around, A'.handled = none → Walks X.prog X.w A' I fp wr n₀ P St₀) ∧ St₀ 0 s4.heap ∧ (∀ b ∈ fp, b < s4.heap.objs.size) ∧ s4.heap.NoLimit ∧ cStatics ∉ wr ∧
          (∀ href : Heap, (∀ b o, s4.heap.get? b = some o → href.get? b = some o) →
            QuietGenD X.prog X.w (genEnv scope (cloFrom X.env.cells scope.names []) s4.heap.objs.size code bi X.env) x [] elt (List.range s4.heap.objs.size) wr P pz F href (X.A.depth + 1) (X.A.units + 8)) ∧
          (∀ a h5 tk gs, gs.bare = true → s4.heap.objs.size < a → h5.objs.size = a + 1 → (∀ b o, s4.heap.get? b = some o → h5.get? b = some o) →
            WalksS X.prog X.w X.A.in4 a (a :: s4.heap.objs.size :: List.range s4.heap.objs.size) (s4.heap.objs.size :: wr) (GenOnlyQ s4.gens.size) (passing pz n₀ 0).length
              (fun j y => ∃ i, (passing pz n₀ 0)[j]? = some i ∧ F i y) (GenAt X.prog X.w X.A.in4 a s4.gens.size s4.heap.objs.size (List.range s4.heap.objs.size) wr pz n₀ F) →
            GenAt X.prog X.w X.A.in4 a s4.gens.size s4.heap.objs.size (List.range s4.heap.objs.size) wr pz n₀ F 0 { s4 with gens := s4.gens.push gs, toks := tk, heap := h5 } →
            wpAny (model X.prog X.w) X.A (spliced (backTo pos (starEach [] X.env))) (fun us s' => wpAny (model X.prog X.w) X.A (call (.builtin "all") (.ref a :: us)) (EP X pins σ Q) X.xe s') X.xe { s4 with gens := s4.gens.push gs, toks := tk, heap := h5 })) X.xe { s1 with heap := h3, toks := tk } := by
    intro code h3 tk more hx3 hsz3 hP3 ht3
    obtain ⟨bm, ob, b1, b2, b3, b4, b5, b6, b7, b8⟩ := TB.bm
    have hcP : cStatics ≠ P := fun e => by
      obtain ⟨_, hns, _⟩ := I1.nolimit
      obtain ⟨o', es, ep, ho, hd, _⟩ := hns
      rw [e, hPs] at ho
      cases ho
      cases hd
    have hcl : cStatics < s1.heap.objs.size := let ⟨_, hns, _⟩ := I1.nolimit; hns.lt
    have keep3 : ∀ b u, b ≠ P → s1.heap.get? b = some u → h3.get? b = some u := fun b u hb e => hx3 b u hb (Heap.get?_push_of_some _ e)
    refine wpAny_builtinsFor (m := X.mg) (by rw [I1.ok.glob]; exact ((I1.mod.glob.keeps I1.bk).push o).extBut hx3 TB.gP) b1 b2 (keep3 _ _ b4 (I1.bk _ _ b5)) b6 b7 b8 ?_
    refine ⟨s1.heap.objs.size, fp, [s1.heap.objs.size], xs.length, Pf, St, (fun _ => true), (fun i y => ∃ b, bs[i]? = some b ∧ y = .bool b), rfl, W, ?_, fun b hb => ?_, lim.extBut hx3 hcP, ?_, ?_, ?_⟩
    · exact (W X.A hr.hd).frame _ _ _ st0 fun b hb u e => hx3 b u (fpP b hb) e
    · rcases hfp b hb with e | ⟨ob, e, _⟩
      · rw [e]
        exact Nat.lt_of_lt_of_le (Nat.lt_succ_self _) hsz3
      · exact Nat.lt_of_lt_of_le (Nat.lt_succ_of_lt (Heap.lt_size e)) hsz3
    · intro z
      have e : cStatics = s1.heap.objs.size := by simpa using z
      exact Nat.ne_of_lt hcl e
    · intro href hhref
      refine ⟨fun A' E' i v s2 m2 hA _ _ hPv hn hm2 hk => ?_, fun A' E' i v s2 m2 hA hdA huA hPv _ hn hm2 hk => ?_⟩
      · simp only [List.forIn_nil]
        exact wpAny_pure ⟨rfl, GxR.keeps_refl _⟩
      · obtain ⟨y, hy, ry⟩ := hPf i v hPv
        have hi' : i < bs.length := by
          rw [hlen]
          exact (List.getElem?_eq_some_iff.mp hy).1
        have hb : bs[i]? = some bs[i] := List.getElem?_eq_getElem hi'
        refine wpAny_mono (hel _ A' E' i y bs[i] v s2 m2 rfl I1.ok.glob rfl rfl hA hdA huA hy hb ry hn hm2 (fun a ob ha e => ?_)) (fun z s3 r => ⟨⟨_, hb, r.1⟩, r.2⟩) fun _ _ e => e
        have hlt : a < s1.heap.objs.size := Heap.lt_size e
        refine hk a (List.mem_range.mpr (Nat.lt_of_lt_of_le (Nat.lt_succ_of_lt hlt) hsz3)) (fun z => ?_) ob (hhref a ob (keep3 a ob ha e))
        have e2 : a = s1.heap.objs.size := by simpa using z
        exact Nat.ne_of_lt hlt e2
    · intro g h5 tk5 gs hgb hag hsz5 hk5 W5 hat
      simp only [GxR.passing_true, List.length_range] at W5
      refine Calls.spliced_nil ?_
      have W6 := W5.in4_1
      refine call_all_walkS (W6.self 0 _ _ _ hat ⟨g, _, _, _, _, _, _, trB bs, rfl, W6, hat, ?_, fun s' hmv => ?_⟩)
      · intro j y sj Qj Ej hy hQj
        obtain ⟨i, hij, b, hb, rfl⟩ := hy
        obtain ⟨hj, ej⟩ := List.getElem?_eq_some_iff.mp hij
        have ej' : i = j := by
          have := ej
          simp only [GxR.passing_true, List.getElem_range] at this
          exact this.symm
        subst ej'
        have e9 : trB bs i = b := by
          unfold trB
          rw [List.getD_eq_getElem?_getD, hb]
          rfl
        rw [e9] at hQj
        exact wpAny_truthy_bool hQj
      · have nwr : ∀ b u, s1.heap.get? b = some u → b ∉ h3.objs.size :: [s1.heap.objs.size] := fun b u e hb => by
          have hl := Heap.lt_size e
          rcases List.mem_cons.mp hb with z | z
          · rw [z] at hl
            have h9 : (h3.objs.size : Nat) < s1.heap.objs.size := hl
            omega
          · have z : b = s1.heap.objs.size := by simpa using z
            rw [z] at hl
            exact Nat.lt_irrefl _ hl
        have J := GxR.inv_tab (more := more) (h' := s'.heap) (g' := s'.gens) (d' := s'.drawn) (t' := s'.toks) I1 hP (fun b u hb e => hmv.heap b u (nwr b u e) (hk5 b u (keep3 b u hb e)))
          (hmv.heap P _ (nwr P _ hPs) (hk5 P _ hP3)) (AllBare.movedS (I1.bare.push hgb) hmv)
        rw [GxR.sh_eta s1 s' hmv.os] at J
        refine ⟨.bl _, upd H1 P (.tbl (ps ++ more)), J, rfl, ?_⟩
        rw [← hlen, all_trB]
        exact hq _ ⟨⟨ps ++ more, upd_same, ht3⟩, fun b hb => upd_ne hb⟩
  cases hf : codeAmong gpos ps.toList with
  | none =>
    refine wpAny_genexprCodeX hcode (cd.code hP2 htr) (cd.tab hP2) hf fun c' h' tk hx hge hlt hco' _ htab' _ => ?_
    obtain ⟨o1, vs, f1, tf, fl, tg, inF, tx, tt, op, _, _, _, _, _, _, _, _, _, htr', _⟩ := hco'
    have hge' : s1.heap.objs.size + 1 ≤ h'.objs.size := by
      rw [← sz]
      exact Nat.le_trans hge (Nat.le_of_lt hlt)
    exact go _ h' tk _ hx hge' htab'.2 htr'
  | some cv =>
    refine wpAny_genexprCode_hit hcode (cd.code hP2 htr) hf ?_
    have e0 : ps ++ #[] = ps := by simp
    exact go cv (s1.heap.push o) s1.toks #[] (Heap.ExtBut.refl _ _) (by rw [sz]; exact Nat.le_refl _) (by rw [e0]; exact hP2) (by rw [e0]; exact htr)
end
end HK
set_option Elab.async false
set_option linter.all false
set_option maxRecDepth 100000
set_option maxHeartbeats 2000000
/-! is_number called within a generator expression: nothing that stands is touched. -/
namespace HK
open PySem PySem.Spec PyProof.Rows L2 SX
theorem Keeps.trans' {s s1 s2 : Shared} (a : Keeps s s1) (b : Keeps s1 s2) : Keeps s s2 := by
  obtain ⟨h, t, rfl, k⟩ := a
  obtain ⟨h', t', rfl, k'⟩ := b
  exact ⟨h', t', rfl, fun b o e => k' b o (k b o e)⟩
/-- what a frame of ours looks names up in -/
structure Quiet (K : PySem.W.Frag) (mg : Str → Option Value) (env : Env) (h : Heap) : Prop where
  kin : K.In h
  glob : h.Ns mainGlobals mg
  blt : ∃ mb, h.Ns builtinsNs mb ∧ ∀ x : Str, x ≠ "__name__" → mb x = bootBuiltins x
  kind : env.scope.kind = .function
  g : env.globals = mainGlobals
  b : env.builtins = builtinsNs
theorem Quiet.keeps {K : PySem.W.Frag} {mg : Str → Option Value} {env : Env} {h h' : Heap} (q : Quiet K mg env h) (k : ∀ b o, h.get? b = some o → h'.get? b = some o) : Quiet K mg env h' :=
  ⟨q.kin.keeps k, q.glob.keeps k, by obtain ⟨mb, a, c⟩ := q.blt; exact ⟨mb, a.keeps k, c⟩, q.kind, q.g, q.b⟩
section
variable {P : Program} {w : World} {K : PySem.W.Frag} {mg : Str → Option Value} {A : Around} {E : Value → Shared → Prop} {s : Shared} {env : Env}
theorem q_glob {x : Str} {v : Value} {pos : Pos} {Q : Value → Shared → Prop} (q : Quiet K mg env s.heap) (hx : env.kindOf x = some .globalImplicit) (hm : mg x = some v) (h : Q v s) (hd : (x == ("__debug__" : Str)) = false := by decide) :
    wpAny (model P w) A (eval (.Name x pos) env) Q E s :=
  Calls.Name_function_global q.kind hx (Calls.loadGlobal_global (by rw [q.g]; exact q.glob) hm h) hd
theorem q_blt {x : Str} {v : Value} {pos : Pos} {Q : Value → Shared → Prop} (q : Quiet K mg env s.heap) (hx : env.kindOf x = some .globalImplicit) (hm : mg x = none) (hv : bootBuiltins x = some v) (h : Q v s) (hn : x ≠ "__name__" := by decide) (hd : (x == ("__debug__" : Str)) = false := by decide) :
    wpAny (model P w) A (eval (.Name x pos) env) Q E s := by
  obtain ⟨mb, hb, hbb⟩ := q.blt
  exact Calls.Name_function_global q.kind hx (Calls.loadGlobal_builtin (by rw [q.g]; exact q.glob) hm (by rw [q.b]; exact hb) ((hbb x hn).trans hv) h) hd
/-- is_number of three ints -/
theorem isnum_call {d : Ad} (T : Tx K mg d) {f : Addr} (hf : mg "is_number" = some (.ref f)) (hd : A.depth < recursionLimit) (q : Quiet K mg env s.heap) (lim : s.heap.NoLimit) {v lo hi : Int} {t1 t2 t3 : Tok} {Q : Value → Shared → Prop}
    (h : ∀ s', Keeps s s' → Q (.bool (decide (lo ≤ v) && decide (v ≤ hi))) s') : wpAny (model P w) A (call (.ref f) [.int v t1, .int lo t2, .int hi t3]) Q E s := by
  obtain ⟨f', fd, F, hf', _⟩ := T.d_is_number.ex
  rw [hf] at hf'
  cases hf'
  obtain ⟨oc, od, kV, doc, pm, an, cdv, ct, osl, rfl, lk, hcd⟩ := F.ex
  refine wpAny_call (Att.call_fn (binds := [("value", .int v t1), ("low", .int lo t2), ("high", .int hi t3)]) q.kin lim lk hcd hd (BindsTo.of_eq (by first | rfl | with_unfolding_all rfl)) (by first | rfl | kernel_rfl) (fun s1 IC => ?_) (by decide +kernel) (by decide +kernel) (by decide +kernel))
  obtain ⟨h1, tk1, rfl⟩ := IC.toInCall.same
  have k1 : ∀ b o, s.heap.get? b = some o → h1.get? b = some o := IC.toInCall.keep
  have hn := IC.toInCall.ns
  have q1 : Quiet K mg (envOfC "is_number" (defScope s_is_number) s.heap.objs.size f cdv) h1 := ⟨q.kin.keeps k1, q.glob.keeps k1, (q.keeps k1).blt, (show (defScope s_is_number).kind = .function by decide +kernel), rfl, rfl⟩
  show wpAny _ _ (execs (defBody s_is_number) _) _ _ _
  have hb : ∃ p1 p2 p3 p4 p5 p6 p7 p8 p9 p10 p11 p12 p13 p14 p15, defBody s_is_number = [.Return (some (.BoolOp .And [.Call (.Name "isinstance" p1) [.Name "value" p2, .Name "int" p3] [] p4,
    .UnaryOp .Not (.Call (.Name "isinstance" p5) [.Name "value" p6, .Name "bool" p7] [] p8) p9, .Compare (.Name "low" p10) [.LtE, .LtE] [.Name "value" p11, .Name "high" p12] p13] p14)) p15] := ⟨_, _, _, _, _, _, _, _, _, _, _, _, _, _, _, rfl⟩
  obtain ⟨p1, p2, p3, p4, p5, p6, p7, p8, p9, p10, p11, p12, p13, p14, p15, hb⟩ := hb
  rw [hb]
  refine wpAny_execs_cons ?_
  refine wpAny_Return_some ?_
  have ld : ∀ {x : Str} {u : Value} {pos : Pos} {h2 : Heap} {tk2 : Nat} {Q : Value → Shared → Prop} {E : Value → Shared → Prop}, (∀ b o, h1.get? b = some o → h2.get? b = some o) → (defScope s_is_number).names.lookup x = some .local →
      (bindL (envOfC "is_number" (defScope s_is_number) s.heap.objs.size f cdv).kindOf [("value", .int v t1), ("low", .int lo t2), ("high", .int hi t3)] fun _ => none) x = some u → (x == ("__debug__" : Str)) = false →
      Q u { s with heap := h2, toks := tk2 } → wpAny (model P w) (A.deeper (envOfC "is_number" (defScope s_is_number) s.heap.objs.size f cdv)) (eval (.Name x pos) (envOfC "is_number" (defScope s_is_number) s.heap.objs.size f cdv)) Q E { s with heap := h2, toks := tk2 } :=
    fun k hl hm hdb hq => wpAny_Name (wpAny_loadName_local q1.kind hl (hn.keeps k) hm hq) hdb
  have r0 : ∀ b o, h1.get? b = some o → h1.get? b = some o := fun _ _ e => e
  have bI : bootBuiltins "isinstance" = some (.builtin "isinstance") := by decide +kernel
  have bi : bootBuiltins "int" = some (.type "int") := by decide +kernel
  have bb : bootBuiltins "bool" = some (.type "bool") := by decide +kernel
  -- isinstance(value, int)
  refine BoolOp_and (wpAny_Call_Name_kw (q_blt q1 rfl T.f_isinstance bI (PyProof.Rows.callWith_builtin1 ?_)))
  refine Calls.spliced_cons (ld r0 (by decide +kernel) rfl (by decide) (Calls.spliced_cons (q_blt q1 rfl T.f_int bi (Calls.spliced_nil ?_))))
  refine IsiPair.int_int (wpAny_truthy_bool (PyProof.Rows.ite_tt ?_))
  -- not isinstance(value, bool)
  refine BoolOp_and (UnaryOp_ (wpAny_Call_Name_kw (q_blt q1 rfl T.f_isinstance bI (PyProof.Rows.callWith_builtin1 ?_))))
  refine Calls.spliced_cons (ld r0 (by decide +kernel) rfl (by decide) (Calls.spliced_cons (q_blt q1 rfl T.f_bool bb (Calls.spliced_nil ?_))))
  refine IsiPair.int_bool (not_of (wpAny_truthy_bool (wpAny_truthy_bool (PyProof.Rows.ite_tt ?_))))
  -- low <= value <= high
  refine BoolOp_one (Compare_chain (ld r0 (by decide +kernel) rfl (by decide) (chain_link (ld r0 (by decide +kernel) rfl (by decide) ?_))))
  refine le_int (wpAny_truthy_bool ?_)
  by_cases c : lo ≤ v
  · rw [if_pos (by rw [decide_eq_true c])]
    refine chain_last (ld r0 (by decide +kernel) rfl (by decide) (le_int ?_))
    have := h { s with heap := h1, toks := tk1 + 1 } ⟨h1, tk1 + 1, rfl, k1⟩
    rw [decide_eq_true c, Bool.true_and] at this
    exact this
  · rw [if_neg (by simpa using c)]
    have := h { s with heap := h1, toks := tk1 + 1 } ⟨h1, tk1 + 1, rfl, k1⟩
    rw [decide_eq_false c, Bool.false_and] at this
    have c' : decide (lo ≤ v) = false := decide_eq_false c
    rw [c']
    exact this
end
end HK
set_option Elab.async false
set_option linter.all false
set_option maxRecDepth 100000
set_option maxHeartbeats 2000000
/-! The tests within the generator expressions. -/
namespace HK
open PySem PySem.Spec PyProof.Rows L2 SX
/-- a generator expression's scope, looked at -/
def genSB (sc scope : Scope) (x : Str) : Bool :=
  decide (scope.kind = .function) && !scope.isCoroutine && scope.names.all (fun y => !decide (y.2 = .cell)) && decide (scope.names.lookup (".0" : Str) = some NameKind.local) && decide (scope.names.lookup x = some .local) &&
    scope.names.all (fun y => !decide (y.2 = .free) || decide (sc.names.lookup y.1 = some .cell))
theorem genS_of {q : Str} {sc scope : Scope} {L f : Addr} {cd : Value} {x : Str} (h : genSB sc scope x = true) : GxR.GenS (envOfC q sc L f cd) scope x := by
  unfold genSB at h
  simp only [Bool.and_eq_true, decide_eq_true_eq, Bool.not_eq_true', List.all_eq_true, Bool.or_eq_true] at h
  obtain ⟨⟨⟨⟨⟨h1, h2⟩, h3⟩, h4⟩, h5⟩, h6⟩ := h
  refine ⟨h1, h2, fun y hy => by simpa using h3 y hy, h4, h5, fun y hy e => ?_⟩
  rcases h6 y hy with z | z
  · rw [e] at z
    simp at z
  · exact cell_has z
theorem clo_look {cells : List (Str × Addr)} {names : List (Str × NameKind)} {y : Str} {c : Addr} (hy : (y, NameKind.free) ∈ names) (h : cells.lookup y = some c) : (cloFrom cells names []).lookup y = some c := by
  obtain ⟨c', e⟩ := mem_lookup (cloFrom_has (cells := cells) (acc := []) hy)
  rcases cloFrom_mem (PySem.mem_of_lookup e) with hm | ⟨_, h2⟩
  · cases hm
  · rw [e, h2, h]
    rfl
section
variable {X : Cx} {pins : List (Addr × Obj)} {σ : L2.St} {H1 : Hp} {s1 : Shared} {d : Ad}
/-- the frame of the generator expression looks up what the module has -/
theorem quiet_of {P : Addr} {cenv : Env} {scope : Scope} {s2 : Shared} (I : L2.Inv X pins σ H1 s1) (hP : ∃ o, H1 P = some o) (h1 : cenv.scope = scope) (h2 : cenv.globals = mainGlobals) (h3 : cenv.builtins = builtinsNs) (hk : scope.kind = .function)
    (keep : ∀ a o, a ≠ P → s1.heap.get? a = some o → s2.heap.get? a = some o) : Quiet X.K X.mg cenv s2.heap ∧ s2.heap.NoLimit := by
  have kb : ∀ b o, X.base.get? b = some o → s2.heap.get? b = some o := fun b o e => by
    obtain ⟨e1, e2⟩ := I.bs b o e
    refine keep b o (fun z => ?_) e1
    obtain ⟨o', e3⟩ := hP
    rw [z, e3] at e2
    cases e2
  obtain ⟨mb, m1, m2⟩ := I.mod.blt
  exact ⟨⟨I.mod.kin.keeps kb, I.mod.glob.keeps kb, ⟨mb, m1.keeps kb, m2⟩, by rw [h1]; exact hk, h2, h3⟩, I.mod.nolimit.keeps kb⟩
/-- an expression of the generator's frame whose value is the int hi -/
def IsHi (X : Cx) (s1 : Shared) (P : Addr) (scope : Scope) (e3 : Expr) (hi : Int) : Prop :=
  ∀ (cenv : Env) (A' : Around) (E' : Value → Shared → Prop) (s2 : Shared) (Q : Value → Shared → Prop), cenv.scope = scope → cenv.globals = mainGlobals → cenv.builtins = builtinsNs → cenv.cells = cloFrom X.env.cells scope.names [] →
    A'.handled = none → A'.depth ≤ X.A.depth + 1 → A'.units ≤ X.A.units + 8 →
    (∀ a o, a ≠ P → s1.heap.get? a = some o → s2.heap.get? a = some o) → (∀ s' t, Keeps s2 s' → Q (.int hi t) s') → wpAny (model X.prog X.w) A' (eval e3 cenv) Q E' s2
theorem elts_isn {P : Addr} {scope : Scope} {x : Str} {e3 : Expr} {hi : Int} {q1 q2 q3 q4 q5 : Pos} {j0 : Nat} {k : Nat} (T : Tx X.K X.mg d) (hr : Room k X.A) (I : L2.Inv X pins σ H1 s1) (hP : ∃ o, H1 P = some o) (hk : scope.kind = .function)
    (hx : scope.names.lookup x = some .local) (hdx : (x == ("__debug__" : Str)) = false) (hf : scope.names.lookup ("is_number" : Str) = some NameKind.globalImplicit) (h3 : IsHi X s1 P scope e3 hi) (ns : List Int)
    (he : ∀ env, starEach [e3] env = [(false, eval e3 env)]) :
    Elts X s1 P scope x (.Call (.Name "is_number" q1) [.Name x q2, .Constant (.int 0) j0 q3, e3] [] q5) (ns.map V.int) (ns.map fun m => decide (0 ≤ m) && decide (m ≤ hi)) := by
  intro cenv A' E' i y b u s2 m2 c1 c2 c3 c4 hA hd hu hy hb ry hn hm keep
  obtain ⟨q, lim⟩ := quiet_of I hP c1 c2 c3 hk keep
  obtain ⟨m, hm1, rfl⟩ : ∃ m, ns[i]? = some m ∧ y = .int m := by
    rw [List.getElem?_map] at hy
    cases e : ns[i]? with
    | none => rw [e] at hy; cases hy
    | some m => rw [e] at hy; exact ⟨m, rfl, (Option.some.inj hy).symm⟩
  have hb' : b = (decide (0 ≤ m) && decide (m ≤ hi)) := by
    rw [List.getElem?_map, hm1] at hb
    exact (Option.some.inj hb).symm
  obtain ⟨t, rfl⟩ := ry
  obtain ⟨f, fd, F, hmf, _⟩ := T.d_is_number.ex
  have hdp := hr.dp
  refine wpAny_Call_Name_kw (q_glob q (by show cenv.scope.names.lookup _ = _; rw [c1]; exact hf) hmf ?_ (by decide))
  refine PySem.W.callWith_K (h₀ := s2.heap) q.kin F.kp ?_ rfl (by
    have e : starEach [.Constant (.int 0) j0 q3, e3] cenv = (false, eval (.Constant (.int 0) j0 q3) cenv) :: starEach [e3] cenv := rfl
    rw [e, he]
    rfl)
  show wpAny _ _ (spliced ((false, eval (.Name x q2) cenv) :: (false, eval (.Constant (.int 0) j0 q3) cenv) :: backTo q5 (starEach [e3] cenv))) _ _ s2
  rw [he]
  refine Calls.spliced_cons (wpAny_Name (wpAny_loadName_local (by rw [c1]; exact hk) (by show cenv.scope.names.lookup _ = _; rw [c1]; exact hx) hn hm ?_) hdx)
  refine Calls.spliced_cons (wpAny_Constant_int ?_)
  refine Calls.spliced_cons (h3 cenv A' E' _ _ c1 c2 c3 c4 hA hd hu keep fun s3 t3 k3 => ?_)
  obtain ⟨h', tk', rfl, kk⟩ := k3
  have k3 : Keeps s2 { s2 with heap := h', toks := tk' } := ⟨h', tk', rfl, kk⟩
  refine Calls.spliced_nil ⟨q.kin.keeps kk, ?_⟩
  refine isnum_call (env := cenv) T hmf (by omega) (q.keeps kk) (lim.keeps kk) fun s4 k4 => ⟨by rw [hb'], Keeps.trans' k3 k4⟩
/-- name - 1, the name a captured one that holds an int -/
theorem hi_free {P : Addr} {scope : Scope} {n : Str} {i : Nat} {v : Int} {q1 q2 q3 : Pos} {j1 : Nat} (I : L2.Inv X pins σ H1 s1) (hP : ∃ o, H1 P = some o) (hk : scope.kind = .function) (hn : (n, NameKind.free) ∈ scope.names) (hl : scope.names.lookup n = some .free)
    (hN : X.N[i]? = some n) (hv : X.env.scope.names.lookup n = some .cell) (hσ : σ[i]? = some (some (.int v))) (hdb : (n == ("__debug__" : Str)) = false := by decide) (hcd : (n == ("__classdict__" : Str)) = false := by decide) :
    IsHi X s1 P scope (.BinOp (.Name n q1) .Sub (.Constant (.int 1) j1 q2) q3) (v - 1) := by
  intro cenv A' E' s2 Q c1 c2 c3 c4 hA hd hu keep h
  obtain ⟨m, _, hl'⟩ := I.loc
  obtain ⟨u, ⟨t, rfl⟩, lk⟩ := hl' i n (.int v) hN hσ (.inr (.inl hv))
  rcases lk with ⟨z, _⟩ | ⟨_, c, hc, hcell⟩
  · have z : X.env.scope.names.lookup n = some .local := z
    rw [hv] at z
    cases z
  · have hcP : c ≠ P := fun z => by
      obtain ⟨o, e⟩ := hP
      have := I.freeC n c hc
      rw [z, e] at this
      cases this
    have hcell2 : s2.heap.IsCell c (some (.int v t)) := by
      obtain ⟨o, ho, hd⟩ := hcell
      exact ⟨o, keep c o hcP ho, hd⟩
    refine wpAny_BinOp (wpAny_Name (wpAny_loadName_free (by rw [c1]; exact hk) (by show cenv.scope.names.lookup _ = _; rw [c1]; exact hl) (by rw [c4]; exact clo_look hn hc) hcell2 ?_ hcd) hdb)
    refine wpAny_Constant_int (sub_int ?_)
    exact h _ _ ⟨s2.heap, _, rfl, fun _ _ e => e⟩
end
end HK
set_option Elab.async false
set_option linter.all false
set_option maxRecDepth 100000
set_option maxHeartbeats 2000000
/-! all(one < other for one, other in zip(a, b)): a, b tuples of tuples of ints. -/
namespace HK
open PySem PySem.Spec PyProof.Rows L2 SX
theorem pd_get {α β : Type} {F : α → β → Prop} : ∀ {xs : List α} {ys : List β} {i : Nat} {x : α}, Paired F xs ys → xs[i]? = some x → ∃ y, ys[i]? = some y ∧ F x y
  | _, _, _, _, .nil, e => by simp at e
  | _, _, 0, _, .cons r _, e => by simp at e; subst e; exact ⟨_, rfl, r⟩
  | _, _, i + 1, x, .cons _ t, e => by
    obtain ⟨y, h1, h2⟩ := pd_get (i := i) (x := x) t (by simpa using e)
    exact ⟨y, by simpa using h1, h2⟩
theorem pd_get' {α β : Type} {F : α → β → Prop} : ∀ {xs : List α} {ys : List β} {i : Nat} {y : β}, Paired F xs ys → ys[i]? = some y → ∃ x, xs[i]? = some x ∧ F x y
  | _, _, _, _, .nil, e => by simp at e
  | _, _, 0, _, .cons r _, e => by simp at e; subst e; exact ⟨_, rfl, r⟩
  | _, _, i + 1, x, .cons _ t, e => by
    obtain ⟨y, h1, h2⟩ := pd_get' (i := i) (y := x) t (by simpa using e)
    exact ⟨y, by simpa using h1, h2⟩
theorem far {a n : Nat} (k : Nat) (h : a < n) (e : a = n + k) : False := by omega
theorem far' {a n : Nat} (h : a < n) (m : Nat) (k : n ≤ m) (e : a = m) : False := by omega
theorem vals_get' {xs : List V} {us : List Value} {i : Nat} {u : Value} (r : Vals xs us) (h : us[i]? = some u) : ∃ x, xs[i]? = some x ∧ RelV x u := by
  cases hx : xs[i]? with
  | none =>
    have := Vals.none_of r hx
    rw [this] at h
    cases h
  | some y =>
    obtain ⟨w', h1, h2⟩ := Vals.get r hx
    rw [h1] at h
    cases h
    exact ⟨y, rfl, h2⟩
def IntTups (K : PySem.W.Frag) (H : Hp) : List V → List (List Int) → Prop := Paired fun x ns => ∃ p, x = .ref p ∧ SqT K H p (ns.map V.int)
def zipLt (ps qs : List (List Int)) : List Bool := List.zipWith HT.lexLt ps qs
def tAllZ (K : PySem.W.Frag) (P : Addr) (ta : TA) : TE := fun σ H Q => ta σ H fun vs H1 => ∃ a b xs ys ps qs, vs = [.ref a, .ref b] ∧ SqT K H1 a xs ∧ SqT K H1 b ys ∧ IntTups K H1 xs ps ∧ IntTups K H1 ys qs ∧ GxR.TabG H1 P ∧
  ∀ H2, GxR.Tabbed P H1 H2 → Q (.bl ((zipLt ps qs).all id)) H2
section
variable {X : Cx}
theorem int_tup {pins : List (Addr × Obj)} {σ : L2.St} {H1 : Hp} {s1 : Shared} (I : L2.Inv X pins σ H1 s1) {p : Addr} {ns : List Int} (h : SqT X.K H1 p (ns.map V.int)) : ∃ its : Array Value, IsTup s1.heap p its ∧ IntsAre its.toList ns := by
  obtain ⟨its, rv, hl, _⟩ := I.tuple h
  exact ⟨its.toArray, hl, by simpa using intsAre_of rv⟩
theorem pe_allZ {c P : Addr} {e1 e2 : Expr} {xa xb : Str} {pa pb pt pz p1 p2 p3 p pos gpos : Pos} {kt : Nat} {scope : Scope} {ta : TA} {k : Nat}
    (hr : Room k X.A) (hg : Gl X "all") (hm : X.mg "all" = none) (hg2 : Gl X "zip") (hm2 : X.mg "zip" = none) (TB : GxR.TabB X.base X.mg c P) (hcode : X.env.code = .ref c) (S : GxR.GenS X.env scope xa) (hxb : scope.names.lookup xb = some .local) (hab : xa ≠ xb)
    (hda : (xa == ("__debug__" : Str)) = false) (hdb : (xb == ("__debug__" : Str)) = false) (ha : PA X [e1, e2] ta)
    (hs : ∀ v, genFold (.Call (.Name "zip" pz) [e1, e2] [] p1) X.env v = pure v)
    (hs2 : starEach [e1, e2] X.env = (false, eval e1 X.env) :: starEach [e2] X.env := by rfl) (hpl : (backTo p1 (starEach [e2] X.env)).any (·.1) = false := by rfl)
    (he : starEach [.GeneratorExp (.Compare (.Name xa p2) [.Lt] [.Name xb p3] pos) [⟨.Tuple [.Name xa pa, .Name xb pb] kt pt, .Call (.Name "zip" pz) [e1, e2] [] p1, [], 0⟩] scope gpos] X.env = (false, eval (.GeneratorExp (.Compare (.Name xa p2) [.Lt] [.Name xb p3] pos) [⟨.Tuple [.Name xa pa, .Name xb pb] kt pt, .Call (.Name "zip" pz) [e1, e2] [] p1, [], 0⟩] scope gpos) X.env) :: starEach [] X.env := by rfl) {pos' : Pos} :
    PE X (.Call (.Name "all" p) [.GeneratorExp (.Compare (.Name xa p2) [.Lt] [.Name xb p3] pos) [⟨.Tuple [.Name xa pa, .Name xb pb] kt pt, .Call (.Name "zip" pz) [e1, e2] [] p1, [], 0⟩] scope gpos] [] pos') (tAllZ X.K P ta) := by
  refine ⟨fun pins s σ H Q I h => ?_⟩
  refine wpAny_Call_Name_kw (ld_blt I hg hm (by decide +kernel : bootBuiltins "all" = some (.builtin "all")) ?_)
  refine PyProof.Rows.callWith_builtin1 ?_ he (by rfl)
  rw [he]
  show wpAny _ _ (spliced ((false, eval (.GeneratorExp (.Compare (.Name xa p2) [.Lt] [.Name xb p3] pos) [⟨.Tuple [.Name xa pa, .Name xb pb] kt pt, .Call (.Name "zip" pz) [e1, e2] [] p1, [], 0⟩] scope gpos) X.env) :: backTo pos' (starEach [] X.env))) _ _ s
  refine Calls.spliced_cons ?_
  have hdp := hr.dp
  have hun := hr.units
  refine wpAny_GeneratorExp_walksQTD hr.hd S.co (closure_ok S.free) S.cell S.dot S.loc hxb hab S.kind (by omega) ?_ hs
  refine Call_ (ld_blt I hg2 hm2 PyProof.Rows.boot_zip (PyProof.Rows.callWith_type1 (thn (ha.run p1 pins s σ H _ I h) fun us s1 hx => ?_) hs2 hpl))
  obtain ⟨vs, H1, I1, rv, a, b, xs, ys, ps, qs, ev, hqa, hqb, hps, hqs, ⟨tp, hP, htr⟩, hq⟩ := hx
  subst ev
  obtain ⟨u1, u2, rfl, r1, r2⟩ := vals2 rv
  cases (show u1 = Value.ref a from r1)
  cases (show u2 = Value.ref b from r2)
  obtain ⟨its1, rv1, ht1, _⟩ := I1.tuple hqa
  obtain ⟨its2, rv2, ht2, _⟩ := I1.tuple hqb
  have ht1 : s1.heap.IsTuple a its1.toArray := ht1
  have ht2 : s1.heap.IsTuple b its2.toArray := ht2
  refine zip_begins2 (begins_tuple a its1.toArray) (begins_tuple b its2.toArray) ht1 ht2 fun h2 hz hTI hTO hi1 hi2 hsz hk => ?_
  refine wpAny_pyIter_zip hz ?_
  have hal : a < s1.heap.objs.size := by
    obtain ⟨ob, e, _⟩ := id ht1
    exact Heap.lt_size e
  have hbl : b < s1.heap.objs.size := by
    obtain ⟨ob, e, _⟩ := id ht2
    exact Heap.lt_size e
  have hPs : s1.heap.get? P = some { cls := .none, data := .fields tp } := I1.hok P _ hP
  have hPl : P < s1.heap.objs.size := Heap.lt_size hPs
  have hP2 : h2.get? P = some { cls := .none, data := .fields tp } := hk _ _ hPs
  have cd : PySem.W.CodeHd h2 c P := TB.code.keeps fun b u e => hk _ _ (I1.bk b u e)
  have lim : h2.NoLimit := I1.nolimit.keeps hk
  have W : ∀ A' : Around, A'.handled = none → _ := fun A' hA => (WalksT.zipD2 (prog := X.prog) (w := X.w) (A := A') (zip_sep2 (N := s1.heap.objs.size) (fp1 := [a]) (fp2 := [b]) (by simpa using hal) (by simpa using hbl))
    (Draws.tuple (A := A'.in1) hA s1.heap.objs.size a (Nat.ne_of_lt hal) its1.toArray) (Draws.tuple (A := A'.in1) hA (s1.heap.objs.size + 1) b (Nat.ne_of_lt (Nat.lt_succ_of_lt hal |> fun _ => Nat.lt_succ_of_lt hbl)) its2.toArray)).toU
  have fpl : ∀ b' ∈ (s1.heap.objs.size + 4) :: (s1.heap.objs.size + 2) :: (s1.heap.objs.size + 3) :: ([s1.heap.objs.size, a] ++ [s1.heap.objs.size + 1, b]), b' = a ∨ b' = b ∨ (s1.heap.objs.size ≤ b' ∧ b' < s1.heap.objs.size + 5) := fun b' hb => by
    simp only [List.mem_cons, List.mem_append, List.not_mem_nil, or_false] at hb
    rcases hb with e | e | e | (e | e) | (e | e)
    · exact .inr (.inr (by rw [e]; exact ⟨Nat.le_add_right _ _, by omega⟩))
    · exact .inr (.inr (by rw [e]; exact ⟨Nat.le_add_right _ _, by omega⟩))
    · exact .inr (.inr (by rw [e]; exact ⟨Nat.le_add_right _ _, by omega⟩))
    · exact .inr (.inr (by rw [e]; exact ⟨Nat.le_refl _, by omega⟩))
    · exact .inl e
    · exact .inr (.inr (by rw [e]; exact ⟨Nat.le_add_right _ _, by omega⟩))
    · exact .inr (.inl e)
  have fpP : ∀ b' ∈ (s1.heap.objs.size + 4) :: (s1.heap.objs.size + 2) :: (s1.heap.objs.size + 3) :: ([s1.heap.objs.size, a] ++ [s1.heap.objs.size + 1, b]), b' ≠ P := fun b' hb z => by
    rcases fpl b' hb with e | e | ⟨e, _⟩
    · obtain ⟨ob, e1, e2, _⟩ := id ht1
      rw [← e, z, hPs] at e1
      have := Option.some.inj e1
      rw [← this] at e2
      cases e2
    · obtain ⟨ob, e1, e2, _⟩ := id ht2
      rw [← e, z, hPs] at e1
      have := Option.some.inj e1
      rw [← this] at e2
      cases e2
    · rw [z] at e
      exact Nat.lt_irrefl _ (Nat.lt_of_lt_of_le hPl e)
  have fpb : ∀ b' ∈ (s1.heap.objs.size + 4) :: (s1.heap.objs.size + 2) :: (s1.heap.objs.size + 3) :: ([s1.heap.objs.size, a] ++ [s1.heap.objs.size + 1, b]), b' < s1.heap.objs.size + 5 := fun b' hb => by
    rcases fpl b' hb with e | e | ⟨_, e⟩
    · rw [e]
      exact Nat.lt_of_lt_of_le hal (Nat.le_add_right _ _)
    · rw [e]
      exact Nat.lt_of_lt_of_le hbl (Nat.le_add_right _ _)
    · exact e
  have hlen : (zipLt ps qs).length = min its1.toArray.size its2.toArray.size := by
    unfold zipLt
    rw [List.length_zipWith, ← hps.length, ← hqs.length, rv1.length, rv2.length, List.size_toArray, List.size_toArray]
  refine ⟨lim, ?_⟩
  have go : ∀ (code : Value) (h3 : Heap) (tk : Nat) (more : Array Value), Heap.ExtBut P h2 h3 → s1.heap.objs.size + 5 ≤ h3.objs.size →
      h3.get? P = some { cls := .none, data := .fields (tp ++ more) } → TriplesOk (tp ++ more).toList →
      wpAny (model X.prog X.w) X.A (builtinsFor X.env.globals X.env.builtins) (fun bi s4 =>
        ∃ I fp wr n₀ Pt St₀ Mid pz F, Value.ref (s1.heap.objs.size + 4) = .ref I ∧ (∀ A' : Around, A'.handled = none → WalksU X.prog X.w A' I fp wr n₀ Pt St₀ Mid) ∧ (∀ i vals, Pt i vals → ∃ va vb, vals = #[va, vb]) ∧ St₀ 0 s4.heap ∧ (∀ b ∈ fp, b < s4.heap.objs.size) ∧ s4.heap.NoLimit ∧ cStatics ∉ wr ∧
          (∀ href : Heap, (∀ b o, s4.heap.get? b = some o → href.get? b = some o) →
            QuietGenTD X.prog X.w (genEnv scope (cloFrom X.env.cells scope.names []) s4.heap.objs.size code bi X.env) xa xb [] (.Compare (.Name xa p2) [.Lt] [.Name xb p3] pos) (List.range s4.heap.objs.size) wr Pt pz F href (X.A.depth + 1) (X.A.units + 8)) ∧
          (∀ a h5 tk gs, gs.bare = true → s4.heap.objs.size < a → h5.objs.size = a + 1 → (∀ b o, s4.heap.get? b = some o → h5.get? b = some o) →
            WalksS X.prog X.w X.A.in4 a (a :: s4.heap.objs.size :: List.range s4.heap.objs.size) (s4.heap.objs.size :: wr) (GenOnlyQ s4.gens.size) (passing pz n₀ 0).length
              (fun j y => ∃ i, (passing pz n₀ 0)[j]? = some i ∧ F i y) (GenAt X.prog X.w X.A.in4 a s4.gens.size s4.heap.objs.size (List.range s4.heap.objs.size) wr pz n₀ F) →
            GenAt X.prog X.w X.A.in4 a s4.gens.size s4.heap.objs.size (List.range s4.heap.objs.size) wr pz n₀ F 0 { s4 with gens := s4.gens.push gs, toks := tk, heap := h5 } →
            wpAny (model X.prog X.w) X.A (spliced (backTo pos' (starEach [] X.env))) (fun us s' => wpAny (model X.prog X.w) X.A (call (.builtin "all") (.ref a :: us)) (EP X pins σ Q) X.xe s') X.xe { s4 with gens := s4.gens.push gs, toks := tk, heap := h5 })) X.xe { s1 with heap := h3, toks := tk } := by
    intro code h3 tk more hx3 hsz3 hP3 ht3
    obtain ⟨bm, ob, b1, b2, b3, b4, b5, b6, b7, b8⟩ := TB.bm
    have hcP : cStatics ≠ P := fun e => by
      obtain ⟨_, hns, _⟩ := I1.nolimit
      obtain ⟨o', es, ep, ho, hd, _⟩ := hns
      rw [e, hPs] at ho
      cases ho
      cases hd
    have hcl : cStatics < s1.heap.objs.size := let ⟨_, hns, _⟩ := I1.nolimit; hns.lt
    have keep3 : ∀ b u, b ≠ P → s1.heap.get? b = some u → h3.get? b = some u := fun b u hb e => hx3 b u hb (hk _ _ e)
    refine wpAny_builtinsFor (m := X.mg) (by rw [I1.ok.glob]; exact ((I1.mod.glob.keeps I1.bk).keeps hk).extBut hx3 TB.gP) b1 b2 (keep3 _ _ b4 (I1.bk _ _ b5)) b6 b7 b8 ?_
    refine ⟨s1.heap.objs.size + 4, _, [s1.heap.objs.size + 4, s1.heap.objs.size + 3, s1.heap.objs.size, s1.heap.objs.size + 1], min its1.toArray.size its2.toArray.size, _, _, _, (fun _ => true), (fun i y => ∃ b, (zipLt ps qs)[i]? = some b ∧ y = .bool b), rfl, W, ?_, ?_, fun b' hb => ?_, lim.extBut hx3 hcP, ?_, ?_, ?_⟩
    · rintro i vals ⟨x1, x2, _, _, e⟩
      exact ⟨_, _, e⟩
    · refine (W X.A hr.hd).frame 0 h2 _ ⟨hz, hTI, ⟨_, _, hTO⟩, ⟨⟨_, hi1, rfl, rfl⟩, ht1.at fun o e => hk _ o e⟩, ⟨_, hi2, rfl, rfl⟩, ht2.at fun o e => hk _ o e⟩ fun b' hb u e => hx3 b' u (fpP b' hb) e
    · exact Nat.lt_of_lt_of_le (fpb b' hb) hsz3
    · intro z
      have z2 : cStatics = s1.heap.objs.size + 4 ∨ cStatics = s1.heap.objs.size + 3 ∨ cStatics = s1.heap.objs.size ∨ cStatics = s1.heap.objs.size + 1 := by simpa using z
      have hcl' : (cStatics : Nat) < s1.heap.objs.size := hcl
      rcases z2 with z | z | z | z
      · exact far 4 hcl z
      · exact far 3 hcl z
      · exact far 0 hcl z
      · exact far 1 hcl z
    · intro href hhref
      refine ⟨fun A' E' i va vb s2 m2 hA _ _ hPv hn hma hmb hk2 => ?_, fun A' E' i va vb s2 m2 hA hdA huA hPv _ hn hma hmb hk2 => ?_⟩
      · simp only [List.forIn_nil]
        exact wpAny_pure ⟨rfl, GxR.keeps_refl _⟩
      · obtain ⟨x1, x2, g1, g2, e3⟩ := hPv
        have e4 : va = x1 ∧ vb = x2 := by
          have := congrArg Array.toList e3
          simpa using this
        obtain ⟨rfl, rfl⟩ := e4
        have g1 : its1.toArray[i]? = some va := g1
        have g2 : its2.toArray[i]? = some vb := g2
        have g1 : its1[i]? = some va := by simpa using g1
        have g2 : its2[i]? = some vb := by simpa using g2
        obtain ⟨y1, k1, q1⟩ := vals_get' rv1 g1
        obtain ⟨y2, k2, q2⟩ := vals_get' rv2 g2
        obtain ⟨n1, l1, pp1, rfl, m1⟩ := pd_get hps k1
        obtain ⟨n2, l2, pp2, rfl, m3⟩ := pd_get hqs k2
        cases (show va = Value.ref pp1 from q1)
        cases (show vb = Value.ref pp2 from q2)
        obtain ⟨ia, ta1, ta2⟩ := int_tup I1 m1
        obtain ⟨ib, tb1, tb2⟩ := int_tup I1 m3
        have kp : ∀ a o, a ≠ P → s1.heap.get? a = some o → s2.heap.get? a = some o := fun a' ob ha e => by
          have hlt : a' < s1.heap.objs.size := Heap.lt_size e
          refine hk2 a' (List.mem_range.mpr (Nat.lt_of_lt_of_le (Nat.lt_of_lt_of_le hlt (Nat.le_add_right _ 5)) hsz3)) (fun z => ?_) ob (hhref a' ob (keep3 a' ob ha e))
          have hlt' : (a' : Nat) < s1.heap.objs.size := hlt
          have z2 : a' = s1.heap.objs.size + 4 ∨ a' = s1.heap.objs.size + 3 ∨ a' = s1.heap.objs.size ∨ a' = s1.heap.objs.size + 1 := by simpa using z
          rcases z2 with z | z | z | z
          · exact far 4 hlt z
          · exact far 3 hlt z
          · exact far 0 hlt z
          · exact far 1 hlt z
        have up : ∀ {pp : Addr} {it : Array Value}, IsTup s1.heap pp it → IsTup s2.heap pp it := fun {pp it} t => by
          obtain ⟨o, ho, hc, hd⟩ := t
          refine ⟨o, kp _ _ (fun z => ?_) ho, hc, hd⟩
          rw [z, hPs] at ho
          cases ho
          cases hc
        have hb : (zipLt ps qs)[i]? = some (HT.lexLt n1 n2) := by
          unfold zipLt
          rw [List.getElem?_zipWith, l1, l2]
        refine wpAny_Compare1 (wpAny_Name (wpAny_loadName_local S.kind (by show scope.names.lookup _ = _; exact S.loc) hn hma ?_) hda) rfl
        refine wpAny_Name (wpAny_loadName_local S.kind (by show scope.names.lookup _ = _; exact hxb) hn hmb ?_) hdb
        exact HT.lt_tupInts (up ta1) (up tb1) ta2 tb2 (by omega) ⟨⟨_, hb, rfl⟩, GxR.keeps_refl _⟩
    · intro g h5 tk5 gs hgb hag hsz5 hk5 W5 hat
      simp only [GxR.passing_true, List.length_range] at W5
      refine Calls.spliced_nil ?_
      have W6 := W5.in4_1
      refine call_all_walkS (W6.self 0 _ _ _ hat ⟨g, _, _, _, _, _, _, trB (zipLt ps qs), rfl, W6, hat, ?_, fun s' hmv => ?_⟩)
      · intro j y sj Qj Ej hy hQj
        obtain ⟨i, hij, b, hb, rfl⟩ := hy
        obtain ⟨hj, ej⟩ := List.getElem?_eq_some_iff.mp hij
        have ej' : i = j := by
          have := ej
          simp only [GxR.passing_true, List.getElem_range] at this
          exact this.symm
        subst ej'
        have e9 : trB (zipLt ps qs) i = b := by
          unfold trB
          rw [List.getD_eq_getElem?_getD, hb]
          rfl
        rw [e9] at hQj
        exact wpAny_truthy_bool hQj
      · have nwr : ∀ b u, s1.heap.get? b = some u → b ∉ h3.objs.size :: [s1.heap.objs.size + 4, s1.heap.objs.size + 3, s1.heap.objs.size, s1.heap.objs.size + 1] := fun b u e hb => by
          have hl : (b : Nat) < s1.heap.objs.size := Heap.lt_size e
          have z2 : b = h3.objs.size ∨ b = s1.heap.objs.size + 4 ∨ b = s1.heap.objs.size + 3 ∨ b = s1.heap.objs.size ∨ b = s1.heap.objs.size + 1 := by simpa using hb
          rcases z2 with z | z | z | z | z
          · exact far' (Heap.lt_size e) _ (Nat.le_trans (Nat.le_add_right _ 5) hsz3) z
          · exact far 4 (Heap.lt_size e) z
          · exact far 3 (Heap.lt_size e) z
          · exact far 0 (Heap.lt_size e) z
          · exact far 1 (Heap.lt_size e) z
        have J := GxR.inv_tab (more := more) (h' := s'.heap) (g' := s'.gens) (d' := s'.drawn) (t' := s'.toks) I1 hP (fun b u hb e => hmv.heap b u (nwr b u e) (hk5 b u (keep3 b u hb e)))
          (hmv.heap P _ (nwr P _ hPs) (hk5 P _ hP3)) (AllBare.movedS (I1.bare.push hgb) hmv)
        rw [GxR.sh_eta s1 s' hmv.os] at J
        refine ⟨.bl _, upd H1 P (.tbl (tp ++ more)), J, rfl, ?_⟩
        rw [← hlen, all_trB]
        exact hq _ ⟨⟨tp ++ more, upd_same, ht3⟩, fun b hb => upd_ne hb⟩
  cases hf : codeAmong gpos tp.toList with
  | none =>
    refine wpAny_genexprCodeX hcode (cd.code hP2 htr) (cd.tab hP2) hf fun c' h' tk hx hge hlt hco' _ htab' _ => ?_
    obtain ⟨o1, vs, f1, tf, fl, tg, inF, tx, tt, op, _, _, _, _, _, _, _, _, _, htr', _⟩ := hco'
    have hge' : s1.heap.objs.size + 5 ≤ h'.objs.size := by
      rw [← hsz]
      exact Nat.le_trans hge (Nat.le_of_lt hlt)
    exact go _ h' tk _ hx hge' htab'.2 htr'
  | some cv =>
    refine wpAny_genexprCode_hit hcode (cd.code hP2 htr) hf ?_
    have e0 : tp ++ #[] = tp := by simp
    exact go cv h2 s1.toks #[] (Heap.ExtBut.refl _ _) (by rw [hsz]; exact Nat.le_refl _) (by rw [e0]; exact hP2) (by rw [e0]; exact htr)
end
end HK
set_option Elab.async false
set_option linter.all false
set_option maxRecDepth 100000
set_option maxHeartbeats 2000000
namespace HK
open PySem PySem.Spec PyProof.Rows L2 SX
theorem figs_tl : ("0123456789" : Str).cps.toList = [48, 49, 50, 51, 52, 53, 54, 55, 56, 57] := by decide +kernel
theorem in_figs (c : Nat) : decide (c ∈ ("0123456789" : Str).cps.toList) = isFig c := by
  rw [figs_tl]
  unfold isFig
  rw [Bool.eq_iff_iff]
  simp only [List.mem_cons, List.not_mem_nil, or_false, decide_eq_true_eq, Bool.and_eq_true]
  omega
section
variable {X : Cx} {pins : List (Addr × Obj)} {σ : L2.St} {H1 : Hp} {s1 : Shared} {d : Ad}
theorem elts_fig {P : Addr} {scope : Scope} {x : Str} {q1 q2 q3 : Pos} (T : Tx X.K X.mg d) (I : L2.Inv X pins σ H1 s1) (hP : ∃ o, H1 P = some o) (hk : scope.kind = .function)
    (hx : scope.names.lookup x = some .local) (hdx : (x == ("__debug__" : Str)) = false) (hf : scope.names.lookup ("FIGURES" : Str) = some NameKind.globalImplicit) (cs : List Nat) :
    Elts X s1 P scope x (.Compare (.Name x q1) [.In] [.Name "FIGURES" q2] q3) (cs.map fun c => V.str ⟨#[c]⟩) (cs.map isFig) := by
  intro cenv A' E' i y b u s2 m2 c1 c2 c3 c4 hA hd hu hy hb ry hn hm keep
  obtain ⟨q, lim⟩ := quiet_of I hP c1 c2 c3 hk keep
  obtain ⟨m, hm1, rfl⟩ : ∃ m, cs[i]? = some m ∧ y = .str ⟨#[m]⟩ := by
    rw [List.getElem?_map] at hy
    cases e : cs[i]? with
    | none => rw [e] at hy; cases hy
    | some m => rw [e] at hy; exact ⟨m, rfl, (Option.some.inj hy).symm⟩
  have hb' : b = isFig m := by
    rw [List.getElem?_map, hm1] at hb
    exact (Option.some.inj hb).symm
  obtain ⟨t, rfl⟩ := ry
  obtain ⟨fv, hfv, t2, rfl⟩ := T.c_FIGURES
  refine wpAny_Compare1 (wpAny_Name (wpAny_loadName_local (by rw [c1]; exact hk) (by show cenv.scope.names.lookup _ = _; rw [c1]; exact hx) hn hm ?_) hdx) rfl
  refine q_glob q (by show cenv.scope.names.lookup _ = _; rw [c1]; exact hf) hfv ?_ (by decide)
  refine PyProof.Rows.in_str ⟨?_, GxR.keeps_refl _⟩
  rw [hb', ← in_figs]
  exact congrArg Value.bool (PySem.StrLaws.found_one _ m)
/-- len(name) - 1, the name a captured one that holds a list -/
theorem hi_len {P : Addr} {scope : Scope} {n : Str} {i : Nat} {l : Addr} {ws : List V} {q0 q1 q2 q3 q4 : Pos} {j1 : Nat} (T : Tx X.K X.mg d) (I : L2.Inv X pins σ H1 s1) (hPt : ∃ ps, H1 P = some (.tbl ps)) (hk : scope.kind = .function) (hn : (n, NameKind.free) ∈ scope.names) (hl : scope.names.lookup n = some .free)
    (hlen : scope.names.lookup ("len" : Str) = some NameKind.globalImplicit)
    (hN : X.N[i]? = some n) (hv : X.env.scope.names.lookup n = some .cell) (hσ : σ[i]? = some (some (.ref l))) (hw : SqL X.K H1 l ws) (hdb : (n == ("__debug__" : Str)) = false := by decide) (hcd : (n == ("__classdict__" : Str)) = false := by decide) :
    IsHi X s1 P scope (.BinOp (.Call (.Name "len" q0) [.Name n q1] [] q4) .Sub (.Constant (.int 1) j1 q2) q3) ((ws.length : Int) - 1) := by
  intro cenv A' E' s2 Q c1 c2 c3 c4 hA hd hu keep h
  have hP : ∃ o, H1 P = some o := by
    obtain ⟨ps, e⟩ := hPt
    exact ⟨_, e⟩
  obtain ⟨q, lim⟩ := quiet_of I hP c1 c2 c3 hk keep
  obtain ⟨m, _, hl'⟩ := I.loc
  obtain ⟨u, ru, lk⟩ := hl' i n (.ref l) hN hσ (.inr (.inl hv))
  cases (show u = Value.ref l from ru)
  rcases lk with ⟨z, _⟩ | ⟨_, c, hc, hcell⟩
  · have z : X.env.scope.names.lookup n = some .local := z
    rw [hv] at z
    cases z
  · have hcP : c ≠ P := fun z => by
      obtain ⟨o, e⟩ := hP
      have := I.freeC n c hc
      rw [z, e] at this
      cases this
    have hcell2 : s2.heap.IsCell c (some (.ref l)) := by
      obtain ⟨o, ho, hd⟩ := hcell
      exact ⟨o, keep c o hcP ho, hd⟩
    obtain ⟨its, rv, pl, hz⟩ := I.list hw
    have hil : s1.heap.IsList l its.toArray := pl.isList
    have hil2 : s2.heap.IsList l its.toArray := hil.at fun o e => keep l o (fun z => by
      obtain ⟨ps, e2⟩ := hPt
      have e3 : s1.heap.get? P = some { cls := .none, data := .fields ps } := I.hok P _ e2
      obtain ⟨ob, e1, e4, _⟩ := id hil
      rw [z, e3] at e1
      have := Option.some.inj e1
      rw [← this] at e4
      cases e4) e
    have bl : bootBuiltins "len" = some (.builtin "len") := by decide +kernel
    have hl63 := line63
    have hs : sizeLine = 16777216 := sizeLine_eq
    have hlen2 := rv.length
    refine wpAny_BinOp (wpAny_Call_Name_kw (q_blt q (by show cenv.scope.names.lookup _ = _; rw [c1]; exact hlen) T.f_len bl (PyProof.Rows.callWith_builtin1 ?_)))
    refine Calls.spliced_cons (wpAny_Name (wpAny_loadName_free (by rw [c1]; exact hk) (by show cenv.scope.names.lookup _ = _; rw [c1]; exact hl) (by rw [c4]; exact clo_look hn hc) hcell2 ?_ hcd) hdb)
    refine Calls.spliced_nil ?_
    refine Calls.call_len_list hil2 (by simp only [List.size_toArray]; omega) ?_
    refine wpAny_Constant_int (sub_int ?_)
    have e : ((its.toArray.size : Nat) : Int) = (ws.length : Int) := by
      rw [List.size_toArray, hlen2]
    rw [e]
    exact h _ _ ⟨s2.heap, _, rfl, fun _ _ e => e⟩
end
end HK
set_option Elab.async false
set_option linter.all false
set_option maxRecDepth 100000
set_option maxHeartbeats 2000000
namespace HK
open PySem PySem.Spec PyProof.Rows L2 SX
def tIsn (K : PySem.W.Frag) (seq : PySem.W.Frag → Hp → Addr → List V → Prop) (P : Addr) (hiF : L2.St → Hp → Int → Prop) (te : TE) : TE := fun σ H Q => te σ H fun v H1 => ∃ (p : Addr) (ns : List Int) (hi : Int), v = .ref p ∧ seq K H1 p (ns.map V.int) ∧ hiF σ H1 hi ∧ GxR.TabG H1 P ∧
  ∀ H2, GxR.Tabbed P H1 H2 → Q (.bl (ns.all fun m => decide (0 ≤ m) && decide (m ≤ hi))) H2
def hiN (i : Nat) : L2.St → Hp → Int → Prop := fun σ _ hi => ∃ v : Int, σ[i]? = some (some (.int v)) ∧ hi = v - 1
def hiLen (K : PySem.W.Frag) (i : Nat) : L2.St → Hp → Int → Prop := fun σ H hi => ∃ l ws, σ[i]? = some (some (.ref l)) ∧ SqL K H l ws ∧ hi = (ws.length : Int) - 1
def tClE (te : TE) : TE := fun σ H Q => ∃ R0 : VK, te σ H R0 ∧ ∀ v H1, R0 v H1 → Q v H1
section
variable {X : Cx} {d : Ad}
theorem pe_clo {e : Expr} {te : TE} (h : PE X e te) : PE X e (tClE te) := ⟨fun pins s σ H R I z => by
  obtain ⟨R0, h0, h1⟩ := z
  exact thn (h.run pins s σ H R0 I h0) fun us s1 ⟨v, H1, I1, r1, q1⟩ => ⟨v, H1, I1, r1, h1 v H1 q1⟩⟩
theorem pe_allIsn {c P : Addr} {e3 iter : Expr} {x : Str} {px p pos gpos q1 q2 q3 q5 : Pos} {j0 : Nat} {scope : Scope} {te : TE} {k : Nat} {hiF : L2.St → Hp → Int → Prop} {seq : PySem.W.Frag → Hp → Addr → List V → Prop} (T : Tx X.K X.mg d)
    (hr : Room k X.A) (hg : Gl X "all") (TB : GxR.TabB X.base X.mg c P) (hcode : X.env.code = .ref c) (S : GxR.GenS X.env scope x) (hf : scope.names.lookup ("is_number" : Str) = some NameKind.globalImplicit) (hdx : (x == ("__debug__" : Str)) = false)
    (hseq : ∀ {pins σ H1 s1 p xs}, L2.Inv X pins σ H1 s1 → seq X.K H1 p xs → Iterates X s1 (.ref p) xs)
    (hHi : ∀ pins σ H1 s1 hi, L2.Inv X pins σ H1 s1 → (∃ ps, H1 P = some (.tbl ps)) → hiF σ H1 hi → IsHi X s1 P scope e3 hi) (hi : PE X iter te)
    (hs : ∀ v, genFold iter X.env v = pure v) (he3 : ∀ env, starEach [e3] env = [(false, eval e3 env)])
    (he : starEach [.GeneratorExp (.Call (.Name "is_number" q1) [.Name x q2, .Constant (.int 0) j0 q3, e3] [] q5) [⟨.Name x px, iter, [], 0⟩] scope gpos] X.env = (false, eval (.GeneratorExp (.Call (.Name "is_number" q1) [.Name x q2, .Constant (.int 0) j0 q3, e3] [] q5) [⟨.Name x px, iter, [], 0⟩] scope gpos) X.env) :: starEach [] X.env := by rfl) :
    PE X (.Call (.Name "all" p) [.GeneratorExp (.Call (.Name "is_number" q1) [.Name x q2, .Constant (.int 0) j0 q3, e3] [] q5) [⟨.Name x px, iter, [], 0⟩] scope gpos] [] pos) (tIsn X.K seq P hiF te) := by
  have r := pe_allG (P := P) (p := p) (pos := pos) (px := px) (gpos := gpos) (elt := .Call (.Name "is_number" q1) [.Name x q2, .Constant (.int 0) j0 q3, e3] [] q5) (fun σ H1 v xs bs => ∃ (p : Addr) (ns : List Int) (hi : Int), v = .ref p ∧ seq X.K H1 p (ns.map V.int) ∧ hiF σ H1 hi ∧ (∃ ps, H1 P = some (.tbl ps)) ∧ xs = ns.map V.int ∧ bs = ns.map fun m => decide (0 ≤ m) && decide (m ≤ hi)) hr hg T.f_all TB hcode S (pe_clo hi)
    (fun pins σ H1 s1 v u xs bs I rv hR => by
      obtain ⟨p, ns, hi, rfl, hsq, hh, hpt, rfl, rfl⟩ := hR
      cases (show u = Value.ref p from rv)
      have hP : ∃ o, H1 P = some o := by
        obtain ⟨ps, e⟩ := hpt
        exact ⟨_, e⟩
      exact ⟨by simp, hseq I hsq, elts_isn (q4 := q1) T hr I hP S.kind S.loc hdx hf (hHi pins σ H1 s1 hi I hpt hh) ns he3⟩) hs he
  refine ⟨fun pins s σ H Q I h => r.run pins s σ H Q I ?_⟩
  refine ⟨_, h, fun v H1 ⟨p, ns, hi, ev, hsq, hh, hT, q⟩ => ?_⟩
  have hpt : ∃ ps, H1 P = some (.tbl ps) := by
    obtain ⟨ps, e, _⟩ := id hT
    exact ⟨ps, e⟩
  refine ⟨_, _, ⟨p, ns, hi, ev, hsq, hh, hpt, rfl, rfl⟩, hT, fun H2 t2 => ?_⟩
  have := q H2 t2
  rw [show (List.map (fun m => decide (0 ≤ m) && decide (m ≤ hi)) ns).all id = ns.all fun m => decide (0 ≤ m) && decide (m ≤ hi) by rw [List.all_map]; rfl]
  exact this
theorem pe_allIsnT {c P : Addr} {iter : Expr} {n : Str} {i : Nat} {x : Str} {px p pos gpos q1 q2 q3 q5 q6 q7 q8 : Pos} {j0 j1 : Nat} {scope : Scope} {te : TE} {k : Nat} (T : Tx X.K X.mg d)
    (hr : Room k X.A) (hg : Gl X "all") (TB : GxR.TabB X.base X.mg c P) (hcode : X.env.code = .ref c) (S : GxR.GenS X.env scope x) (hf : scope.names.lookup ("is_number" : Str) = some NameKind.globalImplicit) (hdx : (x == ("__debug__" : Str)) = false)
    (hn : (n, NameKind.free) ∈ scope.names) (hl : scope.names.lookup n = some .free) (hN : X.N[i]? = some n) (hv : X.env.scope.names.lookup n = some .cell) (hdb : (n == ("__debug__" : Str)) = false) (hcd : (n == ("__classdict__" : Str)) = false) (hi : PE X iter te)
    (hs : ∀ v, genFold iter X.env v = pure v)
    (he : starEach [.GeneratorExp (.Call (.Name "is_number" q1) [.Name x q2, .Constant (.int 0) j0 q3, .BinOp (.Name n q6) .Sub (.Constant (.int 1) j1 q7) q8] [] q5) [⟨.Name x px, iter, [], 0⟩] scope gpos] X.env = (false, eval (.GeneratorExp (.Call (.Name "is_number" q1) [.Name x q2, .Constant (.int 0) j0 q3, .BinOp (.Name n q6) .Sub (.Constant (.int 1) j1 q7) q8] [] q5) [⟨.Name x px, iter, [], 0⟩] scope gpos) X.env) :: starEach [] X.env := by rfl) :
    PE X (.Call (.Name "all" p) [.GeneratorExp (.Call (.Name "is_number" q1) [.Name x q2, .Constant (.int 0) j0 q3, .BinOp (.Name n q6) .Sub (.Constant (.int 1) j1 q7) q8] [] q5) [⟨.Name x px, iter, [], 0⟩] scope gpos] [] pos) (tIsn X.K SqT P (hiN i) te) :=
  pe_allIsn T hr hg TB hcode S hf hdx (fun I h => iter_tup I h) (fun pins σ H1 s1 hi I hpt hh => by
    obtain ⟨v, hσ, rfl⟩ := hh
    exact hi_free I (by obtain ⟨ps, e⟩ := hpt; exact ⟨_, e⟩) S.kind hn hl hN hv hσ hdb hcd) hi hs (fun _ => rfl) he
theorem pe_allIsnL {c P : Addr} {iter : Expr} {n : Str} {i : Nat} {x : Str} {px p pos gpos q1 q2 q3 q5 q6 q7 q8 q9 q10 : Pos} {j0 j1 : Nat} {scope : Scope} {te : TE} {k : Nat} (T : Tx X.K X.mg d)
    (hr : Room k X.A) (hg : Gl X "all") (TB : GxR.TabB X.base X.mg c P) (hcode : X.env.code = .ref c) (S : GxR.GenS X.env scope x) (hf : scope.names.lookup ("is_number" : Str) = some NameKind.globalImplicit) (hdx : (x == ("__debug__" : Str)) = false)
    (hlen : scope.names.lookup ("len" : Str) = some NameKind.globalImplicit)
    (hn : (n, NameKind.free) ∈ scope.names) (hl : scope.names.lookup n = some .free) (hN : X.N[i]? = some n) (hv : X.env.scope.names.lookup n = some .cell) (hdb : (n == ("__debug__" : Str)) = false) (hcd : (n == ("__classdict__" : Str)) = false) (hi : PE X iter te)
    (hs : ∀ v, genFold iter X.env v = pure v)
    (he : starEach [.GeneratorExp (.Call (.Name "is_number" q1) [.Name x q2, .Constant (.int 0) j0 q3, .BinOp (.Call (.Name "len" q9) [.Name n q6] [] q10) .Sub (.Constant (.int 1) j1 q7) q8] [] q5) [⟨.Name x px, iter, [], 0⟩] scope gpos] X.env = (false, eval (.GeneratorExp (.Call (.Name "is_number" q1) [.Name x q2, .Constant (.int 0) j0 q3, .BinOp (.Call (.Name "len" q9) [.Name n q6] [] q10) .Sub (.Constant (.int 1) j1 q7) q8] [] q5) [⟨.Name x px, iter, [], 0⟩] scope gpos) X.env) :: starEach [] X.env := by rfl) :
    PE X (.Call (.Name "all" p) [.GeneratorExp (.Call (.Name "is_number" q1) [.Name x q2, .Constant (.int 0) j0 q3, .BinOp (.Call (.Name "len" q9) [.Name n q6] [] q10) .Sub (.Constant (.int 1) j1 q7) q8] [] q5) [⟨.Name x px, iter, [], 0⟩] scope gpos] [] pos) (tIsn X.K SqL P (hiLen X.K i) te) :=
  pe_allIsn T hr hg TB hcode S hf hdx (fun I h => iter_list I h) (fun pins σ H1 s1 hi I hpt hh => by
    obtain ⟨l, ws, hσ, hw, rfl⟩ := hh
    exact hi_len T I hpt S.kind hn hl hlen hN hv hσ hw hdb hcd) hi hs (fun _ => rfl) he
/-- all(sign in FIGURES for sign in text) -/
def tFig (P : Addr) (te : TE) : TE := fun σ H Q => te σ H fun v H1 => ∃ l : List Nat, v = .str (S l) ∧ GxR.TabG H1 P ∧ ∀ H2, GxR.Tabbed P H1 H2 → Q (.bl (l.all isFig)) H2
theorem pe_allFig {c P : Addr} {iter : Expr} {x : Str} {px p pos gpos q1 q2 q3 : Pos} {scope : Scope} {te : TE} {k : Nat} (T : Tx X.K X.mg d)
    (hr : Room k X.A) (hg : Gl X "all") (TB : GxR.TabB X.base X.mg c P) (hcode : X.env.code = .ref c) (S' : GxR.GenS X.env scope x) (hf : scope.names.lookup ("FIGURES" : Str) = some NameKind.globalImplicit) (hdx : (x == ("__debug__" : Str)) = false)
    (hi : PE X iter te) (hs : ∀ v, genFold iter X.env v = pure v)
    (he : starEach [.GeneratorExp (.Compare (.Name x q1) [.In] [.Name "FIGURES" q2] q3) [⟨.Name x px, iter, [], 0⟩] scope gpos] X.env = (false, eval (.GeneratorExp (.Compare (.Name x q1) [.In] [.Name "FIGURES" q2] q3) [⟨.Name x px, iter, [], 0⟩] scope gpos) X.env) :: starEach [] X.env := by rfl) :
    PE X (.Call (.Name "all" p) [.GeneratorExp (.Compare (.Name x q1) [.In] [.Name "FIGURES" q2] q3) [⟨.Name x px, iter, [], 0⟩] scope gpos] [] pos) (tFig P te) := by
  have r := pe_allG (P := P) (p := p) (pos := pos) (px := px) (gpos := gpos) (elt := .Compare (.Name x q1) [.In] [.Name "FIGURES" q2] q3) (fun σ H1 v xs bs => ∃ l : List Nat, v = .str (S l) ∧ (∃ ps, H1 P = some (.tbl ps)) ∧ xs = l.map (fun c => V.str ⟨#[c]⟩) ∧ bs = l.map isFig) hr hg T.f_all TB hcode S' (pe_clo hi)
    (fun pins σ H1 s1 v u xs bs I rv hR => by
      obtain ⟨l, rfl, hpt, rfl, rfl⟩ := hR
      obtain ⟨t, rfl⟩ := (show ∃ t, u = Value.str (S l) t from rv)
      have hP : ∃ o, H1 P = some o := by
        obtain ⟨ps, e⟩ := hpt
        exact ⟨_, e⟩
      exact ⟨by simp, iter_str, elts_fig T I hP S'.kind S'.loc hdx hf l⟩) hs he
  refine ⟨fun pins s σ H Q I h => r.run pins s σ H Q I ?_⟩
  refine ⟨_, h, fun v H1 ⟨l, ev, hT, q⟩ => ?_⟩
  have hpt : ∃ ps, H1 P = some (.tbl ps) := by
    obtain ⟨ps, e, _⟩ := id hT
    exact ⟨ps, e⟩
  refine ⟨_, _, ⟨l, ev, hpt, rfl, rfl⟩, hT, fun H2 t2 => ?_⟩
  have := q H2 t2
  rw [show (l.map isFig).all id = l.all isFig by rw [List.all_map]; rfl]
  exact this
end
end HK
set_option Elab.async false
set_option linter.all false
set_option maxRecDepth 100000
set_option maxHeartbeats 1000000
namespace HK
open PySem PySem.Spec PyProof.Rows L2 SX
theorem tyx_tup {K : PySem.W.Frag} {H : Hp} {a : Addr} {xs : List V} (h : SqT K H a xs) : TyX K H (.ref a) (.type "tuple") := by
  rcases h with (h | ⟨o, h⟩) | ⟨o, its, n, e, c, _⟩
  · exact .base (.tup h)
  · exact .fTuple h
  · exact .kTuple e c
theorem Dp.list_tup {K : PySem.W.Frag} {H : Hp} {ts : List (Int × Int)} : ∀ {xs : List V}, DpAll K H xs (ts.map tieD) → IntTups K H xs (ts.map fun t => [t.1, t.2]) := by
  induction ts with
  | nil =>
    intro xs h
    rw [DpAll.nil_inv h]
    exact .nil
  | cons t ts ih =>
    intro xs h
    obtain ⟨v, r, rfl, a, b⟩ := DpAll.cons_inv h
    obtain ⟨p, rfl, hp⟩ := Dp.pair_inv a
    exact .cons ⟨p, rfl, hp⟩ (ih b)
theorem IntTups.go {T : List Addr} {K : PySem.W.Frag} {H H1 : Hp} (g : Go T H H1) {xs : List V} {ps : List (List Int)} (h : IntTups K H xs ps) : IntTups K H1 xs ps := L2.Paired.mapP h fun _ _ z => by
  obtain ⟨p, e, h⟩ := z
  exact ⟨p, e, g.st h⟩
theorem pd_drop {α β : Type} {F : α → β → Prop} : ∀ (k : Nat) {xs : List α} {ys : List β}, Paired F xs ys → Paired F (xs.drop k) (ys.drop k)
  | 0, _, _, h => h
  | _ + 1, _, _, .nil => .nil
  | k + 1, _, _, .cons _ t => pd_drop k t
theorem lexLt_pair {a b : Int × Int} (h : ltP a b) : HT.lexLt [a.1, a.2] [b.1, b.2] = true := by
  unfold ltP at h
  rcases h with h | ⟨h1, h2⟩
  · unfold HT.lexLt
    simp [h]
    omega
  · unfold HT.lexLt
    simp [h1]
    unfold HT.lexLt
    simp [h2]
    omega
theorem zipLt_asc : ∀ {ts : List (Int × Int)}, ts.Pairwise ltP → (zipLt (ts.map fun t => [t.1, t.2]) ((ts.drop 1).map fun t => [t.1, t.2])).all id = true
  | [], _ => rfl
  | [t], _ => rfl
  | t :: u :: r, h => by
    obtain ⟨h1, h2⟩ := List.pairwise_cons.mp h
    have ih := zipLt_asc h2
    have e := lexLt_pair (h1 u (by simp))
    unfold zipLt at ih ⊢
    simp only [List.drop_one, List.tail_cons, List.map_cons, List.zipWith_cons_cons, List.all_cons, id, Bool.and_eq_true] at ih ⊢
    exact ⟨e, ih⟩
section
variable {P : Program} {w : World} {K : PySem.W.Frag} {mg : Str → Option Value} {base : Heap} {d : Ad}
def spAreTies (K : PySem.W.Frag) (d : Ad) : Sp := fun vs H Q _ => ∃ (n : Int) (v : V) (ts : List (Int × Int)), vs = [.int n, v] ∧ Dp K H v (tiesD ts) ∧ ts.length < 30 ∧ (∀ t ∈ ts, TieOk n t) ∧ ts.Pairwise ltP ∧ Tb d.T H ∧
  ∀ H', Go d.T H H' → Q (.bl true) H'
theorem dk_are_ties (T : Tx K mg d) (B : Tbs base mg d) : DK P w K mg base CX0 6 "are_ties" (spAreTies K d) := by
  refine T.d_are_ties.dk0 sc_are_ties (fun vs H Q E h => ?_) fun f A outer s H vs Q E hr h => ?_
  · obtain ⟨_, _, _, rfl, _⟩ := h
    rfl
  · obtain ⟨n, v, ts, rfl, hv, hlen, hok, hasc, tb, q⟩ := h
    obtain ⟨a, xs, rfl, ha, hall⟩ := Dp.tup_inv hv
    have xlen : xs.length = ts.length := by
      have := DpAll.len hall
      simpa using this
    have mT : d.pT ∈ d.T := by simp [Ad.T]
    refine ⟨_, (pss_cons (ps_if (pt_not (pt_val (pe_callB (call_isiK' K rfl) (by rfl) T.f_isinstance (by decide +kernel) (pa_cons (pv 1) (pa_cons (pe_bltn (v := .ty "tuple") rfl T.f_tuple (by decide +kernel) rfl) pa_nil)))))
      (pss_one (ps_ret pe_bl))
      pss_nil)
    (pss_cons (ps_for PassesOwn.never rfl (pi_tupK K rfl (pv 1)) (pg_name (i := 2) sc_are_ties.nd rfl (Or.inl rfl))
      (pss_cons (ps_if (PW.pt (pw_or (pt_not (pt_val (pe_callB (call_isiK' K rfl) (by rfl) T.f_isinstance (by decide +kernel) (pa_cons (pv 2) (pa_cons (pe_bltn (v := .ty "tuple") rfl T.f_tuple (by decide +kernel) rfl) pa_nil))))) (pw_or (pt_cmpR op_ne (pe_callB (call_lenK K rfl) (by rfl) T.f_len (by decide +kernel) (pa_cons (pv 2) pa_nil)) pe_int (nomark _)) (pw_or1 (pt_not (pt_val (pe_allIsnT (i := 0) T hr (by rfl) B.tT rfl (genS_of (by decide +kernel)) (by decide +kernel) (by decide) (by decide +kernel) (by decide +kernel) rfl (by show List.lookup _ (defScope s_are_ties).names = _; decide +kernel) (by decide) (by decide) (pv 2) (fun _ => rfl))))))))
        (pss_one (ps_ret pe_bl))
        pss_nil)
      (pss_one (ps_if (pt_cmpR op_ge (pe_ix (ix_seqK K rfl) (pv 2) pe_int (fun _ _ => rfl)) (pe_ix (ix_seqK K rfl) (pv 2) pe_int (fun _ _ => rfl)) (nomark _))
        (pss_one (ps_ret pe_bl))
        pss_nil))))
    (pss_one (ps_ret (pe_allZ hr (by rfl) T.f_all (by rfl) T.f_zip B.tT rfl (genS_of (by decide +kernel)) (by decide +kernel) (by decide) (by decide) (by decide) (pa_cons (pv 1) (pa_cons (pe_slice (sl_tupAK K rfl) (pv 1) (po_some pe_int) po_none) pa_nil)) (fun _ => rfl)))))), ?_⟩
    refine ⟨_, rfl, .ref a, .ty "tuple", .type "tuple", .type "tuple", true, rfl, .ty _, tyx_tup ha, kit_ty (by decide +kernel), true, rfl, iteF ?_⟩
    refine ⟨_, rfl, a, rfl, ⟨_, ha⟩, ?_⟩
    refine for_tup (K := K) (a := a) (xs := xs) (fun i σ H2 => ∃ w : Option V, σ = [some (.int n), some (.ref a), w] ∧ Go d.T H H2) ⟨none, rfl, Go.refl tb⟩ (fun i σ H2 _ h => ?_) ?_ ?_
    · obtain ⟨_, _, g⟩ := h
      exact g.st ha
    · rintro i x σ H2 hx ⟨w', rfl, g⟩
      obtain ⟨dd, e1, e2⟩ := DpAll.get' hall hx
      rw [List.getElem?_map] at e1
      cases et : ts[i]? with
      | none => rw [et] at e1; cases e1
      | some t =>
        rw [et] at e1
        have e3 : dd = tieD t := (Option.some.inj e1).symm
        subst e3
        obtain ⟨b, rfl, hb⟩ := Dp.pair_inv e2
        have hb := g.st hb
        have tok := hok t (List.mem_of_getElem? et)
        obtain ⟨k1, k2, k3⟩ := tok
        refine ⟨_, rfl, .ref b, .ty "tuple", .type "tuple", .type "tuple", true, rfl, .ty _, tyx_tup hb, kit_ty (by decide +kernel), true, rfl, iteF ?_⟩
        refine ⟨_, rfl, .ref b, 2, rfl, Or.inr ⟨_, hb, rfl⟩, rfl, false, by simp, iteF ?_⟩
        refine ⟨_, rfl, b, [t.1, t.2], n - 1, rfl, hb, ⟨n, rfl, rfl⟩, g.t1 _ mT, fun H3 t3 => ⟨true, ?_, iteF ?_⟩⟩
        · have c1 : decide (0 ≤ t.1) = true := decide_eq_true k1
          have c2 : decide (t.1 ≤ n - 1) = true := decide_eq_true (by omega)
          have c3 : decide (0 ≤ t.2) = true := decide_eq_true (by omega)
          have c4 : decide (t.2 ≤ n - 1) = true := decide_eq_true k3
          simp [c1, c2, c3, c4]
        have g3 : Go d.T H H3 := g.trans (Go.tab g.t1 mT t3)
        have hb3 := (Go.tab g.t1 mT t3).st hb
        refine ⟨_, rfl, Or.inr (Or.inl ⟨b, _, 0, _, rfl, rfl, hb3, rfl, ?_⟩)⟩
        refine ⟨_, rfl, Or.inr (Or.inl ⟨b, _, 1, _, rfl, rfl, hb3, rfl, ?_⟩)⟩
        refine ⟨_, _, rfl, rfl, _, rfl, ?_⟩
        rw [decide_eq_false (by omega)]
        exact iteF ⟨_, rfl, g3⟩
    · rintro σ H2 ⟨w', rfl, g⟩
      have ha2 := g.st ha
      have hps := (Dp.list_tup hall).go g
      have hz := zipLt_asc hasc
      refine ⟨_, rfl, _, rfl, _, rfl, ?_⟩
      have e1 : HT.sIx xs.length 0 (some 1) = min 1 xs.length := HT.sIx_nat _ _ 1
      refine ⟨a, xs, rfl, ha2, fun hh => ?_, fun hh p np => ?_⟩
      · rw [e1] at hh
        have x0 : xs = [] := List.length_eq_zero_iff.mp (by omega)
        have t0 : ts = [] := List.length_eq_zero_iff.mp (by rw [← xlen, x0]; rfl)
        subst x0 t0
        exact ⟨a, a, [], [], [], [], rfl, ha2, ha2, .nil, .nil, g.t1 _ mT, fun H3 t3 => q H3 (g.trans (Go.tab g.t1 mT t3))⟩
      · have ec : cutV xs (some 1) none = xs.drop 1 := by
          unfold cutV
          rw [e1, HT.sIx_none]
          have e2 : xs.drop (min 1 xs.length) = xs.drop 1 := by
            cases xs with
            | nil => rfl
            | cons x r => rw [List.length_cons, Nat.min_eq_left (by omega)]
          rw [e2, List.take_of_length_le]
          rw [List.length_drop]
          omega
        rw [ec]
        have g3 : Go d.T H (upd H2 p (.tup (xs.drop 1))) := g.put (g.free np)
        have gp : Go d.T H2 (upd H2 p (.tup (xs.drop 1))) := Go.new g.t1 np
        refine ⟨a, p, xs, xs.drop 1, _, _, rfl, g3.st ha, .inl (.inl upd_same), hps.go gp, IntTups.go gp (pd_drop 1 hps), g3.t1 _ mT, fun H3 t3 => ?_⟩
        rw [← List.map_drop, hz]
        exact q H3 (g3.trans (Go.tab g3.t1 mT t3))
/-- a yard that the program would take -/
def spNeedYard (K : PySem.W.Frag) (d : Ad) : Sp := fun vs H Q _ => ∃ (v : V) (y : Yd), vs = [v] ∧ Dp K H v (yardD y) ∧ VY y ∧ y.ties.length < 30 ∧ Tb d.T H ∧ ∀ H', Go d.T H H' → Q .non H'
theorem dk_need_yard (T : Tx K mg d) (B : Tbs base mg d) : DK P w K mg base CX0 7 "need_yard" (spNeedYard K d) := by
  have d_is_number : DK P w K mg base CX0 1 "is_number" spIsNumber := dk_is_number T
  have d_hanging : DK P w K mg base CX0 2 "hanging" (spHanging K) := dk_hanging T
  have d_are_ties : DK P w K mg base CX0 6 "are_ties" (spAreTies K d) := dk_are_ties T B
  refine T.d_need_yard.dk0 sc_need_yard (fun vs H Q E h => ?_) fun f cdv A outer s H vs Q E hr h => ?_
  · obtain ⟨_, _, rfl, _⟩ := h
    rfl
  · obtain ⟨v, y, rfl, hv, vy, hlen, tb, q⟩ := h
    obtain ⟨a, xs, rfl, ha, hall⟩ := Dp.tup_inv hv
    obtain ⟨v1, r1, rfl, h1, hall⟩ := DpAll.cons_inv hall
    obtain ⟨v2, r2, rfl, h2, hall⟩ := DpAll.cons_inv hall
    obtain ⟨v3, r3, rfl, h3, hall⟩ := DpAll.cons_inv hall
    have := DpAll.nil_inv hall
    subst this
    have e1 := Dp.int_inv h1
    have e3 := Dp.int_inv h3
    subst e1 e3
    refine ⟨_, (pss_cons (ps_if (PW.pt (pw_or (pt_not (pt_val (pe_callB (call_isiK' K rfl) (by rfl) T.f_isinstance (by decide +kernel) (pa_cons (pv 0) (pa_cons (pe_bltn (v := .ty "tuple") rfl T.f_tuple (by decide +kernel) rfl) pa_nil))))) (pw_or1 (pt_cmpR op_ne (pe_callB (call_lenK K rfl) (by rfl) T.f_len (by decide +kernel) (pa_cons (pv 0) pa_nil)) pe_int (nomark _)))))
      (pss_one ps_never)
      pss_nil)
    (pss_cons (ps_asg (pv 0) (pg_tupK K rfl (n := 3) (by rfl) (pgs_cons (pg_name (i := 1) sc_need_yard.nd rfl (Or.inl rfl)) (pgs_cons (pg_name (i := 2) sc_need_yard.nd rfl (Or.inl rfl)) (pgs_cons (pg_name (i := 3) sc_need_yard.nd rfl (Or.inl rfl)) pgs_nil)))))
    (pss_cons (ps_if (pt_not (pt_val (pe_d d_is_number hr (by decide) rfl pass0 (pa_cons (pv 1) (pa_cons (C8.pe_gc rfl T.c_LEAST_PLACES) (pa_cons (C8.pe_gc rfl T.c_MOST_PLACES) pa_nil))))))
      (pss_one ps_never)
      pss_nil)
    (pss_cons (ps_if (PW.pt (pw_or (pt_not (pt_val (pe_d d_are_ties hr (by decide) rfl pass0 (pa_cons (pv 1) (pa_cons (pv 2) pa_nil))))) (pw_or1 (pt_cmpR op_lt (pe_callB (call_lenK K rfl) (by rfl) T.f_len (by decide +kernel) (pa_cons (pe_d d_hanging hr (by decide) rfl pass0 (pa_cons (pv 1) (pa_cons (pv 2) (pa_cons pe_int (pa_cons (pe_tup pa_nil) pa_nil))))) pa_nil)) (pv 1) (nomark _)))))
      (pss_one ps_never)
      pss_nil)
    (pss_one (ps_if (pt_not (pt_val (pe_d d_is_number hr (by decide) rfl pass0 (pa_cons (pv 3) (pa_cons pe_int (pa_cons (pe_op op_sub (pv 1) pe_int) pa_nil))))))
      (pss_one ps_never)
      pss_nil)))))), ?_⟩
    refine ⟨_, rfl, .ref a, .ty "tuple", .type "tuple", .type "tuple", true, rfl, .ty _, tyx_tup ha, kit_ty (by decide +kernel), true, rfl, iteF ?_⟩
    refine ⟨_, rfl, .ref a, 3, rfl, Or.inr ⟨_, ha, rfl⟩, rfl, false, by simp, iteF ?_⟩
    refine ⟨_, rfl, a, _, rfl, ha, rfl, _, _, rfl, _, _, rfl, _, _, rfl, rfl, ?_⟩
    refine ⟨_, rfl, y.n, 2, 7, rfl, true, ?_, iteF ?_⟩
    · rw [decide_eq_true vy.lo, decide_eq_true vy.hi]
      rfl
    refine ⟨_, rfl, _, rfl, y.n, _, y.ties, rfl, h2, hlen, vy.tie, vy.asc, tb, fun H1 g1 => ⟨true, rfl, iteF ?_⟩⟩
    refine ⟨_, rfl, _, rfl, (show (0 : Nat) ≤ sizeLine by decide), fun p np => ?_⟩
    have g2 : Go d.T H (upd H1 p (.tup [])) := g1.put (g1.free np)
    refine ⟨y.n, 0, _, _, y.ties, rfl, Dp.go g2 h2, hlen, .tup (.inl (.inl upd_same)) .nil, fun H3 a3 L s3 n3 hL nd mem => ?_⟩
    have g3 : Go d.T H H3 := g2.trans (Go.same g2.t1 s3)
    have cn := (conn_iff nd mem).mp vy.conn
    refine ⟨_, L.length, rfl, Or.inl ⟨_, SqL.of hL, by simp⟩, _, rfl, _, _, rfl, rfl, false, ?_, iteF ?_⟩
    · exact congrArg V.bl (decide_eq_false (by omega))
    refine ⟨_, rfl, _, rfl, _, _, rfl, rfl, y.gate, 0, y.n - 1, rfl, true, ?_, iteF ?_⟩
    · rw [decide_eq_true vy.g0, decide_eq_true vy.g1]
      rfl
    exact q H3 g3
end
end HK
set_option Elab.async false
set_option linter.all false
set_option maxRecDepth 100000
set_option maxHeartbeats 1000000
namespace HK
open PySem PySem.Spec PyProof.Rows L2 SX
section
variable {P : Program} {w : World} {K : PySem.W.Frag} {mg : Str → Option Value} {base : Heap} {d : Ad}
theorem Dp.yard_inv {H : Hp} {v : V} {y : Yd} (h : Dp K H v (yardD y)) : ∃ a v2, v = .ref a ∧ SqT K H a [.int y.n, v2, .int y.gate] ∧ Dp K H v2 (tiesD y.ties) := by
  obtain ⟨a, xs, rfl, ha, hall⟩ := Dp.tup_inv h
  obtain ⟨v1, r1, rfl, h1, hall⟩ := DpAll.cons_inv hall
  obtain ⟨v2, r2, rfl, h2, hall⟩ := DpAll.cons_inv hall
  obtain ⟨v3, r3, rfl, h3, hall⟩ := DpAll.cons_inv hall
  have := DpAll.nil_inv hall
  subst this
  have e1 := Dp.int_inv h1
  have e3 := Dp.int_inv h3
  subst e1 e3
  exact ⟨a, v2, rfl, ha, h2⟩
theorem bookV_flat (st : List (Option Int)) : (st.map bookV).all flatV = true := by
  rw [List.all_eq_true]
  intro x hx
  obtain ⟨o, _, rfl⟩ := List.mem_map.mp hx
  cases o <;> rfl
theorem bookV_hole {st : List (Option Int)} (h : none ∈ st) : inV .non (st.map bookV) = true := by
  unfold inV
  rw [List.any_eq_true]
  exact ⟨.non, List.mem_map.mpr ⟨none, h, rfl⟩, by decide⟩
def bookF : Option Int → Option V
  | none => none
  | some b => some (.int b)
theorem books_vals (st : List (Option Int)) : st.filterMap bookF = (booksL st).map V.int := by
  unfold booksL
  rw [List.map_filterMap]
  congr 1
  funext o
  cases o <;> rfl
/-- a standing that the program would take -/
def spNeedStanding (K : PySem.W.Frag) (d : Ad) : Sp := fun vs H Q _ => ∃ (u v : V) (y : Yd) (st : List (Option Int)), vs = [u, v] ∧ Dp K H u (yardD y) ∧ Dp K H v (standD st) ∧ VS y.n st ∧ Tb d.T H ∧ ∀ H', Go d.T H H' → Q .non H'
theorem dk_need_standing (T : Tx K mg d) (B : Tbs base mg d) : DK P w K mg base CX0 6 "need_standing" (spNeedStanding K d) := by
  refine T.d_need_standing.dk0 sc_need_standing (fun vs H Q E h => ?_) fun f A outer s H vs Q E hr h => ?_
  · obtain ⟨_, _, _, _, rfl, _⟩ := h
    rfl
  · obtain ⟨u, v, y, st, rfl, hu, hv, V0, tb, q⟩ := h
    obtain ⟨a, xs, rfl, ha, hall⟩ := Dp.tup_inv hv
    have ex := stand_inv hall
    subst ex
    obtain ⟨au, v2, rfl, hau, _⟩ := Dp.yard_inv hu
    have mS : d.pS ∈ d.T := by simp [Ad.T]
    have hn := V0.len
    refine ⟨_, (pss_cons (ps_if (PW.pt (pw_or (pt_not (pt_val (pe_callB (call_isiK' K rfl) (by rfl) T.f_isinstance (by decide +kernel) (pa_cons (pv 1) (pa_cons (pe_bltn (v := .ty "tuple") rfl T.f_tuple (by decide +kernel) rfl) pa_nil))))) (pw_or (pt_cmpR op_ne (pe_callB (call_lenK K rfl) (by rfl) T.f_len (by decide +kernel) (pa_cons (pv 1) pa_nil)) (pe_ix (ix_seqK K rfl) (pv 0) pe_int (fun _ _ => rfl)) (nomark _)) (pw_or1 (pt_cmpR (op_ninK K rfl) pe_non (pv 1) rfl)))))
      (pss_one ps_never)
      pss_nil)
    (pss_cons (ps_set (i := 2) sc_need_standing.nd rfl (Or.inr rfl) (by exact (pe_lc (own := [("one", 3)]) (by rfl) sc_need_standing.nd (pi_tupK K rfl (pv 1)) (blkOk_by (own := [("one", 3)]) (N := n_need_standing) (sc := defScope s_need_standing) (by decide +kernel)) (fun _ _ _ _ _ => by exact (pg_name (i := 3) sc_need_standing.nd rfl (Or.inl rfl))) (fun _ _ _ _ _ => by exact (pts_one (pt_cmpR op_notN (pv 3) pe_non (nomark _)))) (fun _ _ _ _ _ => by exact (pv 3)))))
    (pss_one (ps_if (PW.pt (pw_or (pt_not (pt_truthK K rfl (pv 2) (by intro _; rfl))) (pw_or (pt_not (pt_val (pe_allIsnL (i := 2) T hr (by rfl) B.tS rfl (genS_of (by decide +kernel)) (by decide +kernel) (by decide) (by decide +kernel) (by decide +kernel) (by decide +kernel) rfl (by show List.lookup _ (defScope s_need_standing).names = _; decide +kernel) (by decide) (by decide) (pv 2) (fun _ => rfl)))) (pw_or1 (pt_cmpR op_lt (RZ.pe_lenSetI (by rfl) T.f_len (by rfl) T.f_set (pv 2)) (pe_callB (call_lenK K rfl) (by rfl) T.f_len (by decide +kernel) (pa_cons (pv 2) pa_nil)) (nomark _))))))
      (pss_one ps_never)
      pss_nil)))), ?_⟩
    refine ⟨_, rfl, .ref a, .ty "tuple", .type "tuple", .type "tuple", true, rfl, .ty _, tyx_tup ha, kit_ty (by decide +kernel), true, rfl, iteF ?_⟩
    refine ⟨_, rfl, .ref a, st.length, rfl, Or.inr ⟨_, ha, by simp⟩, _, rfl, Or.inr (Or.inl ⟨au, _, 0, _, rfl, rfl, hau, rfl, ?_⟩)⟩
    refine ⟨rfl, false, by simp [hn], iteF ?_⟩
    refine ⟨_, rfl, a, _, rfl, Or.inr ha, rfl, bookV_flat st, false, by rw [if_pos rfl, bookV_hole V0.hole]; rfl, iteF ?_⟩
    refine ⟨_, rfl, a, rfl, ⟨_, ha⟩, fun D nD => ?_⟩
    refine lc_val walk_tup tb nD (fun H' g => g.st ha) yat_same (by have := V0.n7; simp; omega) (fun i => (st[i]?).bind bookF) (fun i x H' H'' Post hi go hy gy hp => ?_) (fun H1 g1 e1 => ?_)
    · obtain ⟨rfl, hx⟩ := hy
      rw [List.getElem?_map] at hx
      cases e : st[i]? with
      | none => rw [e] at hx; cases hx
      | some o =>
        rw [e] at hx
        have ex : x = bookV o := (Option.some.inj hx).symm
        subst ex
        have hp' := hp H'' (Go.refl go.t1)
        rw [e] at hp'
        refine ⟨rfl, _, rfl, rfl, _, rfl, ?_⟩
        cases o with
        | none => exact iteF hp'
        | some b => exact iteT ⟨_, rfl, hp'⟩
    · rw [List.length_map, range_get, books_vals] at e1
      have hlst := SqL.of (K := K) e1
      have hne : (booksL st).map V.int ≠ [] := by
        intro z
        exact V0.some_ (List.map_eq_nil_iff.mp z)
      have hlt := books_lt V0.hole
      refine ⟨_, rfl, true, Or.inl ⟨_, hlst, ?_⟩, iteF ?_⟩
      · cases h : (booksL st).map V.int with
        | nil => exact absurd h hne
        | cons a b => rfl
      refine ⟨_, rfl, D, booksL st, ((booksL st).length : Int) - 1, rfl, hlst, ⟨D, _, rfl, hlst, by rw [List.length_map]⟩, g1.t1 _ mS, fun H3 t3 => ⟨true, ?_, iteF ?_⟩⟩
      · refine congrArg V.bl ?_
        rw [List.all_eq_true]
        intro b hb
        obtain ⟨k1, k2⟩ := V0.lt b hb
        rw [decide_eq_true k1, decide_eq_true (by omega)]
        rfl
      have g2 := Go.tab g1.t1 mS t3
      have hl3 := g2.sl hlst
      refine ⟨_, rfl, D, booksL st, rfl, hl3, V0.nd, by have := V0.n7; omega, _, rfl, ?_⟩
      refine ⟨.ref D, (booksL st).length, rfl, Or.inl ⟨_, hl3, by simp⟩, _, _, rfl, rfl, false, ?_, iteF ?_⟩
      · exact congrArg V.bl (decide_eq_false (by omega))
      exact q H3 (g1.trans g2)
end
end HK
set_option Elab.async false
set_option linter.all false
set_option maxRecDepth 100000
set_option maxHeartbeats 1000000
namespace HK
open PySem PySem.Spec PyProof.Rows L2 SX
/-! ### the words that the program writes out -/
theorem w_say : ("say" : Str) = S kSay := by decide +kernel
theorem w_ask : ("ask" : Str) = S kAsk := by decide +kernel
theorem w_stop : ("stop" : Str) = S kStop := by decide +kernel
theorem w_slide : ("slide" : Str) = S kSlide := by decide +kernel
theorem w_put : ("put" : Str) = S kPut := by decide +kernel
theorem w_zero : ("zero" : Str) = S kZero := by decide +kernel
theorem w_go : ("go" : Str) = S kGo := by decide +kernel
theorem w_get : ("get" : Str) = S kGet := by decide +kernel
theorem w_plus : ("plus" : Str) = S kPlus := by decide +kernel
theorem w_minus : ("minus" : Str) = S kMinus := by decide +kernel
theorem w_set : ("set" : Str) = S kSet := by decide +kernel
theorem w_places : ("places" : Str) = S kPlaces := by decide +kernel
theorem w_tie : ("tie" : Str) = S kTie := by decide +kernel
theorem w_gate : ("gate" : Str) = S kGate := by decide +kernel
theorem w_empty : ("" : Str) = S [] := by decide +kernel
theorem w_dash : ("-" : Str) = S [45] := by decide +kernel
theorem S_beq (a b : List Nat) : (S b == S a) = (a == b) := by
  rw [Bool.eq_iff_iff]
  simp only [beq_iff_eq]
  constructor
  · intro h
    exact (S_inj h).symm
  · intro h
    rw [h]
theorem S_dec (a b : List Nat) : decide (V.str (S a) = V.str (S b)) = (a == b) := by
  rw [Bool.eq_iff_iff]
  simp only [beq_iff_eq, decide_eq_true_eq]
  constructor
  · intro h
    exact S_inj (V.str.inj h)
  · intro h
    rw [h]
theorem in_one (w : List Nat) : inV (.str (S w)) [.str "say", .str "ask", .str "stop"] = isOne w := by
  unfold inV isOne
  simp only [List.any_cons, List.any_nil, Bool.or_false, eqV]
  rw [w_say, w_ask, w_stop, S_beq, S_beq, S_beq, Bool.or_assoc]
theorem in_jump (w : List Nat) : inV (.str (S w)) [.str "zero", .str "go"] = isJump w := by
  unfold inV isJump
  simp only [List.any_cons, List.any_nil, Bool.or_false, eqV]
  rw [w_zero, w_go, S_beq, S_beq]
theorem in_asking (w : List Nat) : inV (.str (S w)) [.str "get", .str "plus", .str "minus", .str "set"] = isAsking w := by
  unfold inV isAsking
  simp only [List.any_cons, List.any_nil, Bool.or_false, eqV]
  rw [w_get, w_plus, w_minus, w_set, S_beq, S_beq, S_beq, S_beq, Bool.or_assoc, Bool.or_assoc]
theorem eq_slide (w : List Nat) : decide (V.str (S w) = V.str ("slide" : Str)) = (w == kSlide) := by rw [w_slide, S_dec]
theorem eq_put (w : List Nat) : decide (V.str (S w) = V.str ("put" : Str)) = (w == kPut) := by rw [w_put, S_dec]
section
variable {P : Program} {w : World} {K : PySem.W.Frag} {mg : Str → Option Value} {base : Heap} {d : Ad}
theorem Dp.ins_inv {H : Hp} {v : V} {i : Ins} (h : Dp K H v (insD i)) : ∃ a, v = .ref a ∧ SqT K H a (.str (S i.1) :: i.2.map V.int) := by
  obtain ⟨a, xs, rfl, ha, hall⟩ := Dp.tup_inv h
  obtain ⟨v1, r1, rfl, h1, hall⟩ := DpAll.cons_inv hall
  have e1 := Dp.str_inv h1
  have e2 := DpAll.ints_inv hall
  subst e1 e2
  exact ⟨a, rfl, ha⟩
theorem vi_one {b m : Int} {i : Ins} (h : VI b m i) : i.2.length = 0 → isOne i.1 = true := fun e => by
  rcases h with ⟨h, _⟩ | ⟨_, x, y, h, _⟩ | ⟨_, x, h, _⟩ | ⟨_, x, h, _⟩ | ⟨_, x, h, _⟩
  · exact h
  all_goals (rw [h] at e; simp at e)
theorem vi_two {b m : Int} {i : Ins} (h : VI b m i) : i.2.length = 2 → i.1 = kSlide ∧ ∃ x y, i.2 = [x, y] ∧ 0 ≤ x ∧ x ≤ 6 ∧ 0 ≤ y ∧ y ≤ 6 := fun e => by
  rcases h with ⟨_, h⟩ | ⟨h1, x, y, h⟩ | ⟨_, x, h, _⟩ | ⟨_, x, h, _⟩ | ⟨_, x, h, _⟩
  · rw [h] at e; simp at e
  · exact ⟨h1, x, y, h⟩
  all_goals (rw [h] at e; simp at e)
theorem not_put {w : List Nat} (h : isJump w = true) : (w == kPut) = false := by
  rcases isJump_cases h with rfl | rfl <;> decide
theorem not_ask {w : List Nat} (h : isJump w = true) : isAsking w = false := by
  rcases isJump_cases h with rfl | rfl <;> decide
/-- an instruction that the program would take -/
def spIsIns (K : PySem.W.Frag) (d : Ad) : Sp := fun vs H Q _ => ∃ (v : V) (books many : Int) (i : Ins), vs = [v, .int books, .int many, .int 7] ∧ Dp K H v (insD i) ∧ VI books many i ∧ Tb d.T H ∧ ∀ H', Go d.T H H' → Q (.bl true) H'
theorem dk_is_instruction (T : Tx K mg d) (B : Tbs base mg d) : DK P w K mg base CX0 6 "is_instruction" (spIsIns K d) := by
  have d_is_number : DK P w K mg base CX0 1 "is_number" spIsNumber := dk_is_number T
  refine T.d_is_instruction.dk0 sc_is_instruction (fun vs H Q E h => ?_) fun f A outer s H vs Q E hr h => ?_
  · obtain ⟨_, _, _, _, rfl, _⟩ := h
    rfl
  · obtain ⟨v, books, many, i, rfl, hv, V0, tb, q⟩ := h
    obtain ⟨a, rfl, ha⟩ := Dp.ins_inv hv
    have mI : d.pI ∈ d.T := by simp [Ad.T]
    obtain ⟨wd, ns⟩ := i
    simp only at ha
    have hn : ns = [] ∨ (∃ x, ns = [x]) ∨ ∃ x y, ns = [x, y] := by
      rcases V0 with ⟨_, h⟩ | ⟨_, x, y, h, _⟩ | ⟨_, x, h, _⟩ | ⟨_, x, h, _⟩ | ⟨_, x, h, _⟩
      · exact .inl h
      · exact .inr (.inr ⟨x, y, h⟩)
      all_goals exact .inr (.inl ⟨x, h⟩)
    refine ⟨_, (pss_cons (ps_if (PW.pt (pw_or (pt_not (pt_val (pe_callB (call_isiK' K rfl) (by rfl) T.f_isinstance (by decide +kernel) (pa_cons (pv 0) (pa_cons (pe_bltn (v := .ty "tuple") rfl T.f_tuple (by decide +kernel) rfl) pa_nil))))) (pw_or (pt_not (pt_chain op_le op_le pe_int (pe_callB (call_lenK K rfl) (by rfl) T.f_len (by decide +kernel) (pa_cons (pv 0) pa_nil)) pe_int)) (pw_or1 (pt_not (pt_val (pe_callB (call_isiK' K rfl) (by rfl) T.f_isinstance (by decide +kernel) (pa_cons (pe_ix (ix_seqK K rfl) (pv 0) pe_int (fun _ _ => rfl)) (pa_cons (pe_bltn (v := .ty "str") rfl T.f_str (by decide +kernel) rfl) pa_nil)))))))))
      (pss_one (ps_ret pe_bl))
      pss_nil)
    (pss_cons (ps_if (pt_cmpR op_eq (pe_callB (call_lenK K rfl) (by rfl) T.f_len (by decide +kernel) (pa_cons (pv 0) pa_nil)) pe_int (nomark _))
      (pss_one (ps_ret (pe_cmpR (op_inK K rfl) (pe_ix (ix_seqK K rfl) (pv 0) pe_int (fun _ _ => rfl)) (pe_tup (pa_cons pe_str (pa_cons pe_str (pa_cons pe_str pa_nil)))) rfl)))
      pss_nil)
    (pss_cons (ps_if (pt_cmpR op_eq (pe_callB (call_lenK K rfl) (by rfl) T.f_len (by decide +kernel) (pa_cons (pv 0) pa_nil)) pe_int (nomark _))
      (pss_one (ps_ret (pe_and (pe_cmpR op_eq (pe_ix (ix_seqK K rfl) (pv 0) pe_int (fun _ _ => rfl)) pe_str (nomark _)) (pe_one (pe_allIsnT (i := 3) T hr (by rfl) B.tI rfl (genS_of (by decide +kernel)) (by decide +kernel) (by decide) (by decide +kernel) (by decide +kernel) rfl (by show List.lookup _ (defScope s_is_instruction).names = _; decide +kernel) (by decide) (by decide) (pe_slice (sl_tupAK K rfl) (pv 0) (po_some pe_int) po_none) (fun _ => rfl))))))
      pss_nil)
    (pss_cons (ps_if (pt_cmpR (op_inK K rfl) (pe_ix (ix_seqK K rfl) (pv 0) pe_int (fun _ _ => rfl)) (C8.pe_gc rfl T.c_ASKING) rfl)
      (pss_one (ps_ret (pe_d d_is_number hr (by decide) rfl pass0 (pa_cons (pe_ix (ix_seqK K rfl) (pv 0) pe_int (fun _ _ => rfl)) (pa_cons pe_int (pa_cons (pe_op op_sub (pv 1) pe_int) pa_nil))))))
      pss_nil)
    (pss_cons (ps_if (pt_cmpR op_eq (pe_ix (ix_seqK K rfl) (pv 0) pe_int (fun _ _ => rfl)) pe_str (nomark _))
      (pss_one (ps_ret (pe_d d_is_number hr (by decide) rfl pass0 (pa_cons (pe_ix (ix_seqK K rfl) (pv 0) pe_int (fun _ _ => rfl)) (pa_cons (pe_un un_neg (C8.pe_gc rfl T.c_GREATEST)) (pa_cons (C8.pe_gc rfl T.c_GREATEST) pa_nil))))))
      pss_nil)
    (pss_one (ps_ret (pe_and (pe_cmpR (op_inK K rfl) (pe_ix (ix_seqK K rfl) (pv 0) pe_int (fun _ _ => rfl)) (pe_tup (pa_cons pe_str (pa_cons pe_str pa_nil))) rfl) (pe_one (pe_d d_is_number hr (by decide) rfl pass0 (pa_cons (pe_ix (ix_seqK K rfl) (pv 0) pe_int (fun _ _ => rfl)) (pa_cons pe_int (pa_cons (pv 2) pa_nil))))))))))))), ?_⟩
    refine ⟨_, rfl, .ref a, .ty "tuple", .type "tuple", .type "tuple", true, rfl, .ty _, tyx_tup ha, kit_ty (by decide +kernel), true, rfl, iteF ?_⟩
    rcases hn with rfl | ⟨x, rfl⟩ | ⟨x, y, rfl⟩
    · have hl : LenV K (.ref a) H 1 := Or.inr ⟨_, ha, rfl⟩
      have ho := vi_one V0 rfl
      refine ⟨_, rfl, .ref a, 1, rfl, hl, _, _, rfl, rfl, true, rfl, iteT ⟨_, _, rfl, rfl, true, rfl, iteF ?_⟩⟩
      refine ⟨_, rfl, Or.inr (Or.inl ⟨a, _, 0, _, rfl, rfl, ha, rfl, ?_⟩)⟩
      refine ⟨.str (S wd), .ty "str", .type "str", .type "str", true, rfl, .ty _, .base (.str _), kit_ty (by decide +kernel), true, rfl, iteF ?_⟩
      refine ⟨_, rfl, .ref a, 1, rfl, hl, rfl, true, rfl, iteT ?_⟩
      refine ⟨_, rfl, Or.inr (Or.inl ⟨a, _, 0, _, rfl, rfl, ha, rfl, ?_⟩)⟩
      refine ⟨(show (3 : Nat) ≤ sizeLine by decide), fun p np => ⟨p, _, rfl, Or.inr (.inl (.inl upd_same)), rfl, rfl, ?_⟩⟩
      rw [if_neg (by decide), in_one, ho]
      exact q _ (Go.new tb np)
    · have hl : LenV K (.ref a) H 2 := Or.inr ⟨_, ha, rfl⟩
      refine ⟨_, rfl, .ref a, 2, rfl, hl, _, _, rfl, rfl, true, rfl, iteT ⟨_, _, rfl, rfl, true, rfl, iteF ?_⟩⟩
      refine ⟨_, rfl, Or.inr (Or.inl ⟨a, _, 0, _, rfl, rfl, ha, rfl, ?_⟩)⟩
      refine ⟨.str (S wd), .ty "str", .type "str", .type "str", true, rfl, .ty _, .base (.str _), kit_ty (by decide +kernel), true, rfl, iteF ?_⟩
      refine ⟨_, rfl, .ref a, 2, rfl, hl, rfl, false, rfl, iteF ?_⟩
      refine ⟨_, rfl, .ref a, 2, rfl, hl, rfl, false, rfl, iteF ?_⟩
      refine ⟨_, rfl, Or.inr (Or.inl ⟨a, _, 0, _, rfl, rfl, ha, rfl, ?_⟩)⟩
      refine ⟨d.aA, _, rfl, Or.inr (T.t_ASKING _), rfl, rfl, isAsking wd, by rw [if_neg (by decide), in_asking], ?_⟩
      have ix1 : ∀ (R : VK), R (.int x) H → rIx K (.ref a) (.int 1) H R := fun R r => Or.inr (Or.inl ⟨a, _, 1, _, rfl, rfl, ha, rfl, r⟩)
      rcases V0 with ⟨_, h⟩ | ⟨_, x', y', h, _⟩ | ⟨h1, x', h, h2, h3⟩ | ⟨h1, x', h, h2, h3⟩ | ⟨h1, x', h, h2, h3⟩
      · cases h
      · cases h
      · have ex : x' = x := by
          have h : [x] = [x'] := h
          exact (List.cons.inj h).1.symm
        subst ex
        have h1 : isAsking wd = true := h1
        rw [h1]
        refine iteT ⟨_, rfl, ix1 _ ⟨_, rfl, _, _, rfl, rfl, x', 0, books - 1, rfl, ?_⟩⟩
        rw [decide_eq_true h2, decide_eq_true h3]
        exact q H (Go.refl tb)
      · have ex : x' = x := by
          have h : [x] = [x'] := h
          exact (List.cons.inj h).1.symm
        subst ex
        have h1 : wd = kPut := h1
        subst h1
        rw [show isAsking kPut = false by decide]
        refine iteF ⟨_, rfl, Or.inr (Or.inl ⟨a, _, 0, _, rfl, rfl, ha, rfl, ?_⟩)⟩
        refine ⟨rfl, true, congrArg V.bl (by rw [eq_put]; decide), iteT ?_⟩
        refine ⟨_, rfl, ix1 _ ⟨_, rfl, x', -1000000, 1000000, rfl, ?_⟩⟩
        rw [decide_eq_true h2, decide_eq_true h3]
        exact q H (Go.refl tb)
      · have ex : x' = x := by
          have h : [x] = [x'] := h
          exact (List.cons.inj h).1.symm
        subst ex
        have h1 : isJump wd = true := h1
        rw [not_ask h1]
        refine iteF ⟨_, rfl, Or.inr (Or.inl ⟨a, _, 0, _, rfl, rfl, ha, rfl, ?_⟩)⟩
        refine ⟨rfl, false, congrArg V.bl (by rw [eq_put, not_put h1]), iteF ?_⟩
        refine ⟨_, rfl, Or.inr (Or.inl ⟨a, _, 0, _, rfl, rfl, ha, rfl, ?_⟩)⟩
        refine ⟨(show (2 : Nat) ≤ sizeLine by decide), fun p np => ⟨p, _, rfl, Or.inr (.inl (.inl upd_same)), rfl, rfl, true, ?_, iteT ?_⟩⟩
        · rw [if_neg (by decide), in_jump, h1]
        · have g1 := fun o => Go.new (o := o) tb np
          refine ⟨_, rfl, Or.inr (Or.inl ⟨a, _, 1, _, rfl, rfl, (g1 _).st ha, rfl, ?_⟩)⟩
          refine ⟨_, rfl, x', 0, many, rfl, ?_⟩
          rw [decide_eq_true h2, decide_eq_true h3]
          exact q _ (g1 _)
    · have hl : LenV K (.ref a) H 3 := Or.inr ⟨_, ha, rfl⟩
      obtain ⟨h1, x', y', h, k1, k2, k3, k4⟩ := vi_two V0 rfl
      have h1 : wd = kSlide := h1
      subst h1
      have h : [x, y] = [x', y'] := h
      cases h
      refine ⟨_, rfl, .ref a, 3, rfl, hl, _, _, rfl, rfl, true, rfl, iteT ⟨_, _, rfl, rfl, true, rfl, iteF ?_⟩⟩
      refine ⟨_, rfl, Or.inr (Or.inl ⟨a, _, 0, _, rfl, rfl, ha, rfl, ?_⟩)⟩
      refine ⟨.str (S kSlide), .ty "str", .type "str", .type "str", true, rfl, .ty _, .base (.str _), kit_ty (by decide +kernel), true, rfl, iteF ?_⟩
      refine ⟨_, rfl, .ref a, 3, rfl, hl, rfl, false, rfl, iteF ?_⟩
      refine ⟨_, rfl, .ref a, 3, rfl, hl, rfl, true, rfl, iteT ?_⟩
      refine ⟨_, rfl, Or.inr (Or.inl ⟨a, _, 0, _, rfl, rfl, ha, rfl, ?_⟩)⟩
      refine ⟨rfl, true, congrArg V.bl (by rw [eq_slide]; decide), iteT ?_⟩
      refine ⟨_, rfl, _, rfl, a, _, rfl, ha, fun hh => ?_, fun hh p np => ?_⟩
      · have h9 : HT.sIx 3 0 (some 1) = 0 := hh.1
        exact absurd h9 (by decide)
      · have g1 : Go d.T H (upd H p (.tup [.int x, .int y])) := Go.new tb np
        refine ⟨p, [x, y], 6, rfl, .inl (.inl upd_same), ⟨7, rfl, rfl⟩, g1.t1 _ mI, fun H2 t2 => ?_⟩
        have e : ([x, y].all fun m => decide (0 ≤ m) && decide (m ≤ 6)) = true := by
          simp [k1, k2, k3, k4]
        rw [e]
        exact q H2 (g1.trans (Go.tab g1.t1 mI t2))
end
end HK
set_option Elab.async false
set_option linter.all false
set_option maxRecDepth 100000
set_option maxHeartbeats 2000000
/-! enumerate(tuple). -/
namespace HK
open PySem PySem.Spec PyProof.Rows L2 SX
def enIt (t : Addr) : Obj := { cls := .type "tuple_iterator", data := .fields #[.ref t, .int 0 0] }
def enOb (N : Addr) : Obj := { cls := .type "enumerate", data := .fields #[.none, .bool false, .ref N, rawInt 0, .none, .none] }
theorem meets_enumT (t : Addr) (items : Array Value) :
    Meets (Builtin.«enumerate.__new__» ⟨[.type "enumerate", .ref t], []⟩) fun _ R s => Heap.IsTuple s.heap t items ∧ R (.ok (.ret (.ref (s.heap.push (enIt t)).objs.size))) { s with heap := (s.heap.push (enIt t)).push (enOb s.heap.objs.size) } :=
  .of_wp fun prog w A R s hyp => by
    obtain ⟨hp, gs, dr, tk, os⟩ := s
    obtain ⟨ht, hyp⟩ := hyp
    have hsub := sub_enumerate
    have go : ∀ {A' : Around} {E : Value → Shared → Prop} {Q : Value → Shared → Prop}, Q (.ref hp.objs.size) ⟨hp.push (enIt t), gs, dr, tk, os⟩ → wpAny (model prog w) A' (pyIter (.ref t)) Q E ⟨hp, gs, dr, tk, os⟩ :=
      fun q => wpAny_pyIter_tuple ht q
    obtain ⟨⟨cls, dct, dt, sl⟩, hl, hc, n, hd⟩ := id ht
    replace hc : cls = .type "tuple" := hc
    replace hd : dt = .seq items n := hd
    subst hc hd
    replace hl : Heap.get? (Shared.heap ⟨hp, gs, dr, tk, os⟩) t = _ := hl
    wp_walk using AutoSeq1.wpAny_loadPart' hl
    refine wpAny_stack_any fun st => wpAny_pure ?_
    split
    · rename_i c _ _ _ _ _
      cases (c == Value.type "enumerate") <;> (wp_walk using AutoSeq1.wpAny_loadPart' hl, go; exact ⟨_, rfl, hyp⟩)
    · wp_walk using AutoSeq1.wpAny_loadPart' hl, go
      exact ⟨_, rfl, hyp⟩
theorem call_enumT {prog : Program} {w : World} {A : Around} {E : Value → Shared → Prop} {s : Shared} {t : Addr} {items : Array Value} {Q : Value → Shared → Prop} (ht : s.heap.IsTuple t items)
    (h : ∀ h', IsEnum h' (s.heap.objs.size + 1) s.heap.objs.size 0 .none → h'.IsTupleIter s.heap.objs.size t 0 → (∀ b o, s.heap.get? b = some o → h'.get? b = some o) → Q (.ref (s.heap.objs.size + 1)) { s with heap := h' }) :
    wpAny (model prog w) A (call (.type "enumerate") [.ref t]) Q E s := by
  refine callType_new F.called_enumerate (by decide) (F.typeCall_enumerate_1 _) (F.newCall_enumerate_1 _) (fun obj => F.args_object_init_2 obj _)
    F.entry_enumerate_new (meets_enumT t items) ⟨ht, ?_⟩
  have z1 : (s.heap.push (enIt t)).objs.size = s.heap.objs.size + 1 := Heap.size_push ..
  have g1 : ((s.heap.push (enIt t)).push (enOb s.heap.objs.size)).get? (s.heap.push (enIt t)).objs.size = some (enOb s.heap.objs.size) := Heap.get?_push_size _ rfl
  show _ ∧ _
  rw [z1] at g1 ⊢
  exact ⟨⟨_, g1, rfl⟩, h _ g1 ⟨_, Heap.get?_push_of_some _ (Heap.get?_push_size _ rfl), rfl, rfl⟩ fun b o e => Heap.get?_push_of_some _ (Heap.get?_push_of_some _ e)⟩
theorem draws_end {prog : Program} {w : World} {A : Around} {it t : Addr} {i : Nat} {items : Array Value} (hh : A.handled = none) (hne : t ≠ it) (hn : items[i]? = none) :
    Draws prog w A it [it, t] i (fun _ _ => False) (fun j h => j = i ∧ h.IsTupleIter it t i ∧ h.IsTuple t items) where
  live := fun _ _ st => let ⟨o, ho, _⟩ := st.2.1; ⟨o, ho⟩
  frame := fun _ _ _ st hk => ⟨st.1, st.2.1.at fun o e => hk it (by simp) o e, st.2.2.at fun o e => hk t (by simp) o e⟩
  item := fun j s Q E hj st hQ => by
    have := st.1
    omega
  done := fun s Q E st hE => RZ.nextOf_tuple_end hh st.2.1 st.2.2 hn hE
/-- the tuple at a, each item in a new pair with its number -/
def IteT (K : PySem.W.Frag) (a : Addr) : It :=
  ⟨fun i H => ∃ (xs : List V) (x : V), SqT K H a xs ∧ xs[i]? = some x,
   fun i H v H' => ∃ T x, v = .ref T ∧ H T = none ∧ H' = upd H T (.tup [.int (i : Nat), x]) ∧ ∀ xs, SqT K H a xs → xs[i]? = some x,
   fun i H => ∃ xs : List V, SqT K H a xs ∧ xs.length ≤ i⟩
theorem walk_enumT {K : PySem.W.Frag} {a : Addr} {xs : List V} : Walk (IteT K a) xs.length (fun H => SqT K H a xs) (YPair (fun i => some (.int (i : Nat))) (fun i => xs[i]?)) := by
  refine ⟨fun i _ hi q => ⟨xs, xs[i], q, by simp [hi]⟩, fun _ q => ⟨xs, q, Nat.le_refl _⟩, fun i H v H' _ q y => ?_⟩
  obtain ⟨T, x, h1, h2, h3, h4⟩ := y
  exact ⟨T, .int (i : Nat), x, h1, h2, h3, rfl, h4 xs q⟩
theorem turn_enumT {P : Program} {w : World} {K : PySem.W.Frag} {elts : List Expr} {kk : Nat} {tpos : Pos} (a e it : Addr) :
    Turn P w K (.Tuple elts kk tpos) (IteT K a) [e, it] e (fun i h => (∃ old, IsEnum h e it ((i : Nat) : Int) old) ∧ h.IsTupleIter it a i ∧ e ≠ it ∧ e ≠ a ∧ it ≠ a) where
  mem := by simp
  obj := fun i h st b hb => by
    obtain ⟨⟨old, he⟩, ⟨o, ho, hc, hd⟩, _⟩ := st
    rcases (by simpa using hb : b = e ∨ b = it) with z | z
    · rw [z]
      exact ⟨_, he, fun v q => nomatch q⟩
    · rw [z]
      exact ⟨o, ho, fun v q => by rw [hd] at q; cases q⟩
  keep := fun i h h' st k => let ⟨⟨old, he⟩, hi, hne⟩ := st; ⟨⟨old, k e (by simp) _ he⟩, hi.at fun o q => k it (by simp) o q, hne⟩
  item := by
    intro X hP hw hK hc i pins s σ H E I hf st hg
    subst hP hw hK
    obtain ⟨⟨old, he⟩, hit, hne, hea, hia⟩ := st
    obtain ⟨xs, x, hq, hx⟩ := hg
    obtain ⟨its, rv, p, hz⟩ := I.tuple hq
    obtain ⟨u, hu, ru⟩ := rv.get hx
    have hit0 : it < s.heap.objs.size := by obtain ⟨_, q, _⟩ := hit; exact Heap.lt_size q
    have he0 : e < s.heap.objs.size := Heap.lt_size he
    have p' : s.heap.IsTuple a its.toArray := p
    have hlt : i < its.toArray.size := by
      rw [List.size_toArray]
      exact (List.getElem?_eq_some_iff.mp hu).1
    refine wpAny_pyNext_enum_itemD (Draws.tuple (A := X.A.in1) (I.ok.hd hc) it a (Ne.symm hia) its.toArray) he ⟨hit, p'⟩ hlt hne (by simp [hne, hea]) fun y h' tk hy ho hst' hT hsz hk => ?_
    have ey : y = u := by
      have hy : its.toArray[i]? = some y := hy
      rw [List.getElem?_toArray, hu] at hy
      exact (Option.some.inj hy).symm
    subst ey
    refine ⟨_, rfl, wpAny_letOwnedTupleGo_enum (s := { s with heap := h', toks := tk + 1 }) ho fun h'' he' sb => ?_⟩
    have hT2 : h''.get? s.heap.objs.size = some { cls := .type "tuple", data := .seq #[.int i tk, y] } := (sb.2 _ (Nat.ne_of_gt he0)).trans hT
    have new : ObjOk X.prog X.w (upd H s.heap.objs.size (.tup [.int (i : Nat), x])) h'' s.heap.objs.size (.tup [.int (i : Nat), x]) :=
      ⟨(show (2 : Nat) ≤ sizeLine by decide), [.int i tk, y], .cons ⟨_, rfl⟩ (.cons ru .nil), ⟨_, hT2, rfl, _, rfl⟩⟩
    have I1 : L2.Inv X pins σ (upd H s.heap.objs.size (.tup [.int (i : Nat), x])) { s with heap := h'', toks := tk + 1 } :=
      I.turnedNew (t' := tk + 1) (ch := [e, it]) (fun b ob hb q => (sb.2 b (fun z => hb (by simp [z]))).trans (hk b ob (fun z => hb (by simp [z])) (fun z => hb (by simp [z])) q)) hf (Nat.le_refl _) new
    refine ⟨.ref s.heap.objs.size, _, I1, rfl, ⟨_, x, rfl, I.hok.fresh (Nat.le_refl _), rfl, fun ys hy => by rw [I.tuple_inj hy hq]; exact hx⟩, ⟨⟨y, ?_⟩, ?_, hne, hea, hia⟩, fun b hb => ?_⟩
    · rw [show ((i + 1 : Nat) : Int) = (i : Int) + 1 by omega]
      exact he'
    · exact hst'.1.at fun o q => (sb.2 it (Ne.symm hne)).trans q
    · have hb' : b < s.heap.objs.size := by
        rcases (by simpa using hb : b = e ∨ b = it) with z | z
        · rw [z]; exact he0
        · rw [z]; exact hit0
      rw [upd_ne (Nat.ne_of_lt hb')]
      exact (hf b hb).1
  done := by
    intro X hP hw hK hc i pins s σ H E I hf st hg
    subst hP hw hK
    obtain ⟨⟨old, he⟩, hit, hne, hea, hia⟩ := st
    obtain ⟨xs, hq, hx⟩ := hg
    obtain ⟨its, rv, p, hz⟩ := I.tuple hq
    obtain ⟨f0, f1, f2, f3, f4, f5⟩ := hf it (by simp)
    have p' : s.heap.IsTuple a its.toArray := p
    have hl := rv.length
    have hn : its.toArray[i]? = none := by simp; omega
    exact wpAny_pyNext_enum_endD (draws_end (A := X.A.in1) (I.ok.hd hc) (Ne.symm hia) hn) he ⟨rfl, hit, p'⟩ fun h' eb => ⟨rfl, I.turned (t' := s.toks) (fun b o hb q => eb b o hb q) f0 f1 f3 f4 f5⟩
  self := fun A i s Q E st h => let ⟨⟨_, he⟩, _⟩ := st; wpAny_pyIter_enum he h
def iEnumT (K : PySem.W.Frag) (ta : TA) : TI := fun σ H R => ta σ H fun vs H1 => ∃ a xs, vs = [.ref a] ∧ SqT K H1 a xs ∧ R (IteT K a) H1
theorem pi_enumTK {X : Cx} (K : PySem.W.Frag) (hK : X.K = K) {e : Expr} {ta : TA} {p pos tpos : Pos} {elts : List Expr} {kk : Nat} (hg : Gl X "enumerate") (hm : X.mg "enumerate" = none) (ha : PA X [e] ta) (hs : starEach [e] X.env = [(false, eval e X.env)] := by rfl) :
    PI X (.Tuple elts kk tpos) (.Call (.Name "enumerate" p) [e] [] pos) (iEnumT K ta) := by
  subst hK
  refine ⟨fun pins s σ H R I h => ?_⟩
  refine Call_ (ld_blt I hg hm PyProof.Rows.boot_enumerate (PyProof.Rows.callWith_type1 (thn (ha.run pos pins s σ H _ I h) fun us s1 hx => ?_) hs rfl))
  obtain ⟨vs, H1, I1, r1, a, xs, ex, hq, q⟩ := hx
  subst ex
  obtain ⟨u, rfl, ru⟩ := vals1 r1
  cases (show u = Value.ref a from ru)
  obtain ⟨its, rv, p', hz⟩ := I1.tuple hq
  have p2 : s1.heap.IsTuple a its.toArray := p'
  have hal : a < s1.heap.objs.size := by
    obtain ⟨ob, e, _⟩ := id p2
    exact Heap.lt_size e
  refine call_enumT p2 fun h' he hit hk => wpAny_pyIter_enum he ?_
  have I2 : L2.Inv X pins σ H1 { s1 with heap := h' } := I1.kept (t' := s1.toks) hk
  refine ⟨s1.heap.objs.size + 1, [s1.heap.objs.size + 1, s1.heap.objs.size], _, _, H1, rfl, I2, turn_enumT a (s1.heap.objs.size + 1) s1.heap.objs.size, ⟨⟨.none, he⟩, hit, Nat.succ_ne_self _, Nat.ne_of_gt (Nat.lt_succ_of_lt hal), Nat.ne_of_gt hal⟩, fun b hb => ?_, q⟩
  have hle : s1.heap.objs.size ≤ b := by
    rcases (by simpa using hb : b = s1.heap.objs.size + 1 ∨ b = s1.heap.objs.size) with z | z
    · rw [z]; exact Nat.le_add_right _ _
    · rw [z]; exact Nat.le_refl _
  exact I1.fpOk hle (I1.hok.fresh hle)
end HK
set_option Elab.async false
set_option linter.all false
set_option maxRecDepth 100000
set_option maxHeartbeats 1000000
namespace HK
open PySem PySem.Spec PyProof.Rows L2 SX
section
variable {P : Program} {w : World} {K : PySem.W.Frag} {mg : Str → Option Value} {base : Heap} {d : Ad}
/-- a program that the program would take -/
def spNeedRows (K : PySem.W.Frag) (d : Ad) : Sp := fun vs H Q _ => ∃ (v : V) (books : Int) (p : List Ins), vs = [v, .int books, .int 6000, .int 7] ∧ Dp K H v (progD p) ∧ VP books p ∧ Tb d.T H ∧ ∀ H', Go d.T H H' → Q .non H'
theorem dk_need_rows (T : Tx K mg d) (B : Tbs base mg d) : DK P w K mg base CX0 7 "need_rows" (spNeedRows K d) := by
  have d_is_instruction : DK P w K mg base CX0 6 "is_instruction" (spIsIns K d) := dk_is_instruction T B
  refine T.d_need_rows.dk0 sc_need_rows (fun vs H Q E h => ?_) fun f cdv A outer s H vs Q E hr h => ?_
  · obtain ⟨_, _, _, rfl, _⟩ := h
    rfl
  · obtain ⟨v, books, p, rfl, hv, V0, tb, q⟩ := h
    obtain ⟨a, xs, rfl, ha, hall⟩ := Dp.tup_inv hv
    have xlen : xs.length = p.length := by
      have := DpAll.len hall
      simpa using this
    have pne : 1 ≤ p.length := by
      have := List.length_pos_iff.mpr V0.ne
      omega
    have hm := V0.most
    refine ⟨_, (pss_cons (ps_if (PW.pt (pw_or (pt_not (pt_val (pe_callB (call_isiK' K rfl) (by rfl) T.f_isinstance (by decide +kernel) (pa_cons (pv 0) (pa_cons (pe_bltn (v := .ty "tuple") rfl T.f_tuple (by decide +kernel) rfl) pa_nil))))) (pw_or1 (pt_not (pt_chain op_le op_le pe_int (pe_callB (call_lenK K rfl) (by rfl) T.f_len (by decide +kernel) (pa_cons (pv 0) pa_nil)) (pv 2))))))
      (pss_one ps_never)
      pss_nil)
    (pss_one (ps_for PassesOwn.never rfl (pi_enumTK K rfl (by rfl) T.f_enumerate (pa_cons (pv 0) pa_nil)) (pg_tupK K rfl (n := 2) (by rfl) (pgs_cons (pg_name (i := 4) sc_need_rows.nd rfl (Or.inl rfl)) (pgs_cons (pg_name (i := 5) sc_need_rows.nd rfl (Or.inl rfl)) pgs_nil)))
      (pss_one (ps_if (pt_not (pt_val (pe_d d_is_instruction hr (by decide) rfl pass0 (pa_cons (pv 5) (pa_cons (pv 1) (pa_cons (pe_callB (call_lenK K rfl) (by rfl) T.f_len (by decide +kernel) (pa_cons (pv 0) pa_nil)) (pa_cons (pv 3) pa_nil)))))))
        (pss_one ps_never)
        pss_nil))))), ?_⟩
    refine ⟨_, rfl, .ref a, .ty "tuple", .type "tuple", .type "tuple", true, rfl, .ty _, tyx_tup ha, kit_ty (by decide +kernel), true, rfl, iteF ?_⟩
    refine ⟨_, rfl, .ref a, p.length, rfl, Or.inr ⟨_, ha, xlen.symm⟩, _, _, rfl, rfl, true, congrArg V.bl (decide_eq_true (by omega)), iteT ⟨_, rfl, _, _, rfl, rfl, true, congrArg V.bl (decide_eq_true (by omega)), iteF ?_⟩⟩
    refine ⟨_, rfl, a, xs, rfl, ha, ?_⟩
    refine for_it (walk_enumT (xs := xs)) (fun i σ H2 => ∃ w1 w2 : Option V, σ = [some (.ref a), some (.int books), some (.int 6000), some (.int 7), w1, w2] ∧ Go d.T H H2) ⟨none, none, rfl, Go.refl tb⟩ (fun i σ H2 _ h => ?_) ?_ ?_
    · obtain ⟨_, _, _, g⟩ := h
      exact g.st ha
    · rintro i x σ H2 H3 hi ⟨w1, w2, rfl, g⟩ ⟨t, y, z, rfl, nt, rfl, e1, e2⟩
      have e1 := (Option.some.inj e1).symm
      subst e1
      have g3 : Go d.T H (upd H2 t (.tup [.int (i : Nat), z])) := g.put (g.free nt)
      refine ⟨t, _, rfl, .inl (.inl upd_same), rfl, _, _, rfl, _, _, rfl, rfl, ?_⟩
      obtain ⟨dd, k1, k2⟩ := DpAll.get' hall e2
      rw [List.getElem?_map] at k1
      cases et : p[i]? with
      | none => rw [et] at k1; cases k1
      | some ins =>
        rw [et] at k1
        have e3 : dd = insD ins := (Option.some.inj k1).symm
        subst e3
        refine ⟨_, rfl, _, rfl, _, rfl, .ref a, p.length, rfl, Or.inr ⟨_, g3.st ha, xlen.symm⟩, _, rfl, ?_⟩
        refine ⟨z, books, (p.length : Int), ins, rfl, Dp.go g3 k2, V0.ok ins (List.mem_of_getElem? et), g3.t1, fun H4 g4 => ⟨true, rfl, iteF ?_⟩⟩
        exact ⟨_, _, rfl, g3.trans g4⟩
    · rintro σ H2 ⟨w1, w2, rfl, g⟩
      exact q H2 g
end
end HK
set_option Elab.async false
set_option linter.all false
set_option maxRecDepth 100000
set_option maxHeartbeats 1000000
namespace HK
open PySem PySem.Spec PyProof.Rows L2 SX
theorem cut_head (w : List Nat) : cutS (S w) none (some 1) = S (w.take 1) := by
  refine TL.ext_tl ?_
  show (List.take _ (List.drop _ w)) = w.take 1
  rw [show (S w).length = w.length from S_len w, HT.sIx_none, show HT.sIx w.length w.length (some 1) = min 1 w.length from HT.sIx_nat _ _ 1, List.drop_zero, Nat.sub_zero]
  cases w with
  | nil => rfl
  | cons a b => rw [List.length_cons, Nat.min_eq_left (by omega)]
theorem cut_tail (w : List Nat) : cutS (S w) (some 1) none = S (w.drop 1) := by
  refine TL.ext_tl ?_
  show (List.take _ (List.drop _ w)) = w.drop 1
  rw [show (S w).length = w.length from S_len w, HT.sIx_none, show HT.sIx w.length 0 (some 1) = min 1 w.length from HT.sIx_nat _ _ 1]
  cases w with
  | nil => rfl
  | cons a b => rw [List.length_cons, Nat.min_eq_left (by omega), List.take_of_length_le (by simp)]
theorem take_dash (w : List Nat) : decide (V.str (S (w.take 1)) = V.str ("-" : Str)) = decide (w.head? = some 45) := by
  rw [w_dash, S_dec]
  cases w with
  | nil => rfl
  | cons a b =>
    rw [Bool.eq_iff_iff]
    simp
theorem at0 {α : Type} {c : α} {r : List α} : atI (c :: r) 0 = some c := by
  unfold atI
  rw [show ixN (c :: r).length 0 = some 0 by
    unfold ixN
    simp]
  rfl
section
variable {P : Program} {w : World} {K : PySem.W.Frag} {mg : Str → Option Value} {base : Heap} {d : Ad}
def spWholeIn (d : Ad) : Sp := fun vs H Q _ => ∃ (w : List Nat) (lo hi : Int), vs = [.str (S w), .int lo, .int hi] ∧ w.length ≤ 100000 ∧ Tb d.T H ∧ ∀ H', Go d.T H H' → Q (bookV (wholeL w lo hi)) H'
theorem dk_whole_in (T : Tx K mg d) (B : Tbs base mg d) : DK P w K mg base CX0 6 "whole_in" (spWholeIn d) := by
  refine T.d_whole_in.dk0 sc_whole_in (fun vs H Q E h => ?_) fun f A outer s H vs Q E hr h => ?_
  · obtain ⟨_, _, _, rfl, _⟩ := h
    rfl
  · obtain ⟨w, lo, hi, rfl, hw, tb, q⟩ := h
    have mW : d.pW ∈ d.T := by simp [Ad.T]
    have hwl : (S w).length ≤ sizeLine := by rw [S_len, sizeLine_eq]; omega
    have hpl : (plainL w).length ≤ w.length := by
      unfold plainL
      split
      · rw [List.length_drop]
        omega
      · exact Nat.le_refl _
    have hpz : (S (plainL w)).length ≤ sizeLine := by rw [S_len, sizeLine_eq]; omega
    refine ⟨_, (pss_cons (ps_set (i := 3) sc_whole_in.nd rfl (Or.inl rfl) (pe_ifExp (pt_cmpR op_eq (pe_slice sl_str (pv 0) po_none (po_some pe_int)) pe_str (nomark _)) (pe_slice sl_str (pv 0) (po_some pe_int) po_none) (pv 0)))
    (pss_cons (ps_if (PW.pt (pw_or (pt_not (pt_chain op_le op_le pe_int (pe_callB (call_lenK K rfl) (by rfl) T.f_len (by decide +kernel) (pa_cons (pv 3) pa_nil)) pe_int)) (pw_or (pt_not (pt_val (pe_allFig T hr (by rfl) B.tW rfl (genS_of (by decide +kernel)) (by decide +kernel) (by decide) (pv 3) (fun _ => rfl)))) (pw_or1 (PW.pt (pw_and (pt_cmpR op_eq (pe_ix (ix_seqK K rfl) (pv 3) pe_int (fun _ _ => rfl)) pe_str (nomark _)) (pw_and1 (pt_cmpR op_ne (pv 0) pe_str (nomark _)))))))))
      (pss_one (ps_ret pe_non))
      pss_nil)
    (pss_cons (ps_set (i := 4) sc_whole_in.nd rfl (Or.inl rfl) (pe_ifExp (pt_cmpR op_eq (pe_slice sl_str (pv 0) po_none (po_some pe_int)) pe_str (nomark _)) (pe_un un_neg (pe_callTy call_int_str (by rfl) T.f_int (by decide +kernel) (pa_cons (pv 3) pa_nil))) (pe_callTy call_int_str (by rfl) T.f_int (by decide +kernel) (pa_cons (pv 3) pa_nil))))
    (pss_one (ps_ret (pe_ifExp (pt_chain op_le op_le (pv 1) (pv 4) (pv 2)) (pv 4) pe_non)))))), ?_⟩
    have head : ∀ (σ : L2.St) (H' : Hp) (t u : TE) (Q : VK), σ[0]? = some (some (.str (S w))) → (w.head? = some 45 → t σ H' Q) → (w.head? ≠ some 45 → u σ H' Q) →
        tIf (tTest (tOp rEq (tSl rSlS (tVar 0) tNoPart (tPart (tC (.int 1)))) (tC (.str "-")))) t u σ H' Q := fun σ H' t u Q h0 h1 h2 => by
      refine ⟨_, h0, _, rfl, S w, rfl, hwl, ?_⟩
      refine ⟨rfl, decide (w.head? = some 45), by rw [cut_head, take_dash], ?_⟩
      refine ite2 (fun c => ?_) fun c => ?_
      · exact h1 (of_decide_eq_true c)
      · exact h2 (of_decide_eq_false (by simpa using c))
    have step1 : ∀ (D : Ends) (rest : TS), rest D [some (.str (S w)), some (.int lo), some (.int hi), some (.str (S (plainL w))), none] H →
        tIf (tTest (tOp rEq (tSl rSlS (tVar 0) tNoPart (tPart (tC (.int 1)))) (tC (.str "-")))) (tSl rSlS (tVar 0) (tPart (tC (.int 1))) tNoPart) (tVar 0) [some (.str (S w)), some (.int lo), some (.int hi), none, none] H
          fun v H1 => gName 3 v [some (.str (S w)), some (.int lo), some (.int hi), none, none] H1 fun σ2 H2 => rest D σ2 H2 := fun D rest h => by
      refine head _ _ _ _ _ rfl (fun hc => ?_) fun hc => ?_
      · refine ⟨_, rfl, _, rfl, S w, rfl, hwl, ?_⟩
        rw [cut_tail]
        have e : plainL w = w.drop 1 := by unfold plainL; rw [if_pos hc]
        rw [e] at h
        exact h
      · refine ⟨_, rfl, ?_⟩
        have e : plainL w = w := by unfold plainL; rw [if_neg hc]
        rw [e] at h
        exact h
    refine step1 _ _ ?_
    have hnone : (plainL w).length < 1 ∨ 8 < (plainL w).length ∨ (plainL w).all isFig = false ∨ ((plainL w).head? = some 48 ∧ w ≠ [48]) → wholeL w lo hi = none := fun h => by
      unfold wholeL
      rw [if_pos h]
    have lenv : ∀ H', LenV K (.str (S (plainL w))) H' (plainL w).length := fun H' => ⟨hpz, by rw [S_len]⟩
    refine ⟨_, rfl, _, (plainL w).length, rfl, lenv _, _, _, rfl, rfl, decide (1 ≤ (plainL w).length), ?_, ?_⟩
    · refine congrArg V.bl ?_
      rw [Bool.eq_iff_iff, decide_eq_true_eq, decide_eq_true_eq]
      omega
    have none_ : ∀ H', Go d.T H H' → ((plainL w).length < 1 ∨ 8 < (plainL w).length ∨ (plainL w).all isFig = false ∨ ((plainL w).head? = some 48 ∧ w ≠ [48])) → Q .non H' := fun H' g h => by
      have := q H' g
      rw [hnone h] at this
      exact this
    by_cases c1 : 1 ≤ (plainL w).length
    · rw [decide_eq_true c1]
      refine iteT ⟨_, _, rfl, rfl, decide ((plainL w).length ≤ 8), ?_, ?_⟩
      · refine congrArg V.bl ?_
        rw [Bool.eq_iff_iff, decide_eq_true_eq, decide_eq_true_eq]
        omega
      by_cases c2 : (plainL w).length ≤ 8
      · rw [decide_eq_true c2]
        refine iteF ⟨_, rfl, plainL w, rfl, tb _ mW, fun H2 t2 => ⟨(plainL w).all isFig, rfl, ?_⟩⟩
        have g2 : Go d.T H H2 := Go.tab tb mW t2
        by_cases c3 : (plainL w).all isFig = true
        · rw [c3]
          cases ep : plainL w with
          | nil => rw [ep] at c1; simp at c1
          | cons c r =>
            refine iteF ⟨_, rfl, Or.inr (Or.inr ⟨S (plainL w), 0, c, by rw [ep], rfl, hpz, by show atI (plainL w) 0 = _; rw [ep]; exact at0, ?_⟩)⟩
            refine ⟨rfl, decide (c = 48), ?_, ?_⟩
            · refine congrArg V.bl ?_
              rw [show V.str ⟨#[c]⟩ = V.str (S [c]) from rfl, show ("0" : Str) = S [48] by decide +kernel, S_dec, Bool.eq_iff_iff]
              simp
            have hex : (plainL w).head? = some c := by rw [ep]; rfl
            have fin : ((plainL w).head? = some 48 ∧ w ≠ [48] → False) → ∀ (D : Ends) (rest : TS), D.rt = Q → (∀ n : Int, (bookV (wholeL w lo hi) = if lo ≤ n ∧ n ≤ hi then .int n else .non) → rest D [some (.str (S w)), some (.int lo), some (.int hi), some (.str (S (plainL w))), some (.int n)] H2) →
                tIf (tTest (tOp rEq (tSl rSlS (tVar 0) tNoPart (tPart (tC (.int 1)))) (tC (.str "-")))) (tUn (rU fun i => V.int (-i)) (tCB (fun xs H Q => ∃ a n, xs = [V.str a] ∧ intText? a = some n ∧ a.length ≤ 640 ∧ Q (V.int n) H) (tCons (tVar 3) tNil))) (tCB (fun xs H Q => ∃ a n, xs = [V.str a] ∧ intText? a = some n ∧ a.length ≤ 640 ∧ Q (V.int n) H) (tCons (tVar 3) tNil))
                  [some (.str (S w)), some (.int lo), some (.int hi), some (.str (S (plainL w))), none] H2 fun v H1 => gName 4 v [some (.str (S w)), some (.int lo), some (.int hi), some (.str (S (plainL w))), none] H1 fun σ2 H2 => rest D σ2 H2 := fun hno D rest hrt hrest => by
              have hcond : ¬ ((plainL w).length < 1 ∨ 8 < (plainL w).length ∨ (plainL w).all isFig = false ∨ ((plainL w).head? = some 48 ∧ w ≠ [48])) := by
                rintro (h | h | h | h)
                · omega
                · omega
                · rw [c3] at h; cases h
                · exact hno h
              have hI : intText? (S (plainL w)) = some ((NumText.digitsVal (plainL w) : Nat) : Int) := int_S c3 (by rw [ep]; simp) (by omega)
              have hl6 : (S (plainL w)).length ≤ 640 := by rw [S_len]; omega
              have hb : ∀ n : Int, n = (if w.head? = some 45 then -(NumText.digitsVal (plainL w) : Int) else (NumText.digitsVal (plainL w) : Int)) → bookV (wholeL w lo hi) = if lo ≤ n ∧ n ≤ hi then .int n else .non := fun n hn => by
                unfold wholeL
                rw [if_neg hcond]
                simp only
                rw [← hn]
                by_cases h : lo ≤ n ∧ n ≤ hi
                · rw [if_pos h, if_pos h]
                  rfl
                · rw [if_neg h, if_neg h]
                  rfl
              refine head _ _ _ _ _ rfl (fun hc => ?_) fun hc => ?_
              · refine ⟨_, rfl, S (plainL w), _, rfl, hI, hl6, _, rfl, ?_⟩
                exact hrest _ (hb _ (by rw [if_pos hc]))
              · refine ⟨_, rfl, S (plainL w), _, rfl, hI, hl6, ?_⟩
                exact hrest _ (hb _ (by rw [if_neg hc]))
            rw [← ep]
            refine ite2 (fun k => ?_) fun k => ?_
            · have k : c = 48 := of_decide_eq_true k
              refine ⟨_, rfl, rfl, !decide (w = [48]), ?_, ?_⟩
              · refine congrArg (fun b => V.bl (!b)) ?_
                rw [show ("0" : Str) = S [48] by decide +kernel, S_dec, Bool.eq_iff_iff]
                simp
              by_cases hw0 : w = [48]
              · rw [decide_eq_true hw0]
                refine iteF ?_
                refine fin (fun z => z.2 hw0) _ _ rfl fun n hn => ?_
                refine ⟨_, rfl, _, rfl, _, _, rfl, rfl, decide (lo ≤ n), rfl, ?_⟩
                have hq := q H2 g2
                rw [hn] at hq
                by_cases k1 : lo ≤ n
                · rw [decide_eq_true k1]
                  refine iteT ⟨_, rfl, _, _, rfl, rfl, decide (n ≤ hi), rfl, ?_⟩
                  by_cases k2 : n ≤ hi
                  · rw [decide_eq_true k2]
                    rw [if_pos ⟨k1, k2⟩] at hq
                    exact iteT ⟨_, rfl, hq⟩
                  · rw [decide_eq_false k2]
                    rw [if_neg (fun z => k2 z.2)] at hq
                    exact iteF hq
                · rw [decide_eq_false k1]
                  rw [if_neg (fun z => k1 z.1)] at hq
                  exact iteF ⟨_, rfl, iteF hq⟩
              · rw [decide_eq_false hw0]
                exact iteT (none_ H2 g2 (.inr (.inr (.inr ⟨by rw [hex, k], hw0⟩))))
            · have k48 : ¬ (plainL w).head? = some 48 := fun z => by
                rw [hex] at z
                exact absurd (Option.some.inj z) (of_decide_eq_false (by simpa using k))
              refine iteF ?_
              refine fin (fun z => k48 z.1) _ _ rfl fun n hn => ?_
              refine ⟨_, rfl, _, rfl, _, _, rfl, rfl, decide (lo ≤ n), rfl, ?_⟩
              have hq := q H2 g2
              rw [hn] at hq
              by_cases k1 : lo ≤ n
              · rw [decide_eq_true k1]
                refine iteT ⟨_, rfl, _, _, rfl, rfl, decide (n ≤ hi), rfl, ?_⟩
                by_cases k2 : n ≤ hi
                · rw [decide_eq_true k2]
                  rw [if_pos ⟨k1, k2⟩] at hq
                  exact iteT ⟨_, rfl, hq⟩
                · rw [decide_eq_false k2]
                  rw [if_neg (fun z => k2 z.2)] at hq
                  exact iteF hq
              · rw [decide_eq_false k1]
                rw [if_neg (fun z => k1 z.1)] at hq
                exact iteF ⟨_, rfl, iteF hq⟩
        · have c3' : (plainL w).all isFig = false := by simpa using c3
          rw [c3']
          exact iteT (iteT (none_ H2 g2 (.inr (.inr (.inl c3')))))
      · rw [decide_eq_false c2]
        exact iteT (iteT (none_ H (Go.refl tb) (.inr (.inl (by omega)))))
    · rw [decide_eq_false c1]
      exact iteF ⟨_, rfl, iteT (iteT (none_ H (Go.refl tb) (.inl (by omega))))⟩
end
end HK
set_option Elab.async false
set_option linter.all false
set_option maxRecDepth 100000
set_option maxHeartbeats 1000000
namespace HK
open PySem PySem.Spec PyProof.Rows L2 SX
/-- BadLine(l, p) is let out -/
def Bad (d : Ad) (H : Hp) (E : XK) (e : Int × Int) : Prop := ∀ H' dx, Go d.T H H' → H' dx = some (.xd (badFs e.1 e.2)) → E (.ref d.CB) (some dx) H'
def Out {α : Type} (d : Ad) (H : Hp) (E : XK) (r : Res α) (ok : α → Prop) : Prop := match r with
  | .ok a => ok a
  | .error e => Bad d H E e
theorem Bad.go {d : Ad} {H H1 : Hp} {E : XK} {e : Int × Int} (h : Bad d H E e) (g : Go d.T H H1) : Bad d H1 E e := fun H' dx g1 hx => h H' dx (g.trans g1) hx
/-- the lines are such as the texts have -/
def WsOk (ws : List (List Nat)) : Prop := ws.length ≤ 6000 ∧ ∀ w ∈ ws, w.length ≤ 6000
def LsOk (ls : List Line) : Prop := ∀ l ∈ ls, l.1 ≠ [] ∧ WsOk l.1
theorem numbered_mem : ∀ {a : List (List Nat)} {k : Int} {x : Line}, x ∈ numbered a k → ∃ l ∈ a, x.1 = wordsL l
  | [], k, x, h => by simp [numbered] at h
  | l :: a, k, x, h => by
    rw [numbered_cons] at h
    split at h
    · obtain ⟨l', h1, h2⟩ := numbered_mem h
      exact ⟨l', by simp [h1], h2⟩
    · rcases List.mem_cons.mp h with e | h
      · exact ⟨l, by simp, by rw [e]⟩
      · obtain ⟨l', h1, h2⟩ := numbered_mem h
        exact ⟨l', by simp [h1], h2⟩
theorem words_ok {l : List Nat} (h : l.length ≤ 5000) : WsOk (wordsL l) :=
  ⟨by have := wordsL_length_le l; omega, fun w hw => by have := (wordsL_part hw).2.2; omega⟩
theorem lines_ok {t : List Nat} (h : t.length ≤ 5000) : LsOk (linesL t) := fun x hx => by
  obtain ⟨l, h1, h2⟩ := numbered_mem hx
  have h3 := (cutAt_part 10 t l h1).2
  refine ⟨linesL_ne hx, ?_⟩
  rw [h2]
  exact words_ok (by omega)
section
variable {P : Program} {w : World} {K : PySem.W.Frag} {mg : Str → Option Value} {base : Heap} {d : Ad}
def spNeedText (d : Ad) : Sp := fun vs H Q E => (∃ z, vs = [.str z] ∧ Q .non H) ∨ (vs = [.non] ∧ E (.ref d.CS) none H)
theorem dk_need_text (T : Tx K mg d) : DK P w K mg base (L2.CX P w) 2 "need_text" (spNeedText d) := by
  refine T.d_need_text.dkX sc_need_text (fun vs H Q E h => ?_) fun f cdv A outer s H vs Q E hr h => ?_
  · rcases h with ⟨_, rfl, _⟩ | ⟨rfl, _⟩ <;> rfl
  · refine ⟨_, (pss_one (ps_if (pt_not (pt_val (pe_callB (call_isiK' K rfl) (by rfl) T.f_isinstance (by decide +kernel) (pa_cons (pv 0) (pa_cons (pe_bltn (v := .ty "str") rfl T.f_str (by decide +kernel) rfl) pa_nil)))))
      (pss_one (ps_bads T rfl rfl (takes_of rfl rfl rfl rfl)))
      pss_nil)), ?_⟩
    rcases h with ⟨z, rfl, q⟩ | ⟨rfl, q⟩
    · refine ⟨_, rfl, .str z, .ty "str", .type "str", .type "str", true, rfl, .ty _, .base (.str _), kit_ty (by decide +kernel), true, rfl, iteF ?_⟩
      exact q
    · refine ⟨_, rfl, .non, .ty "str", .type "NoneType", .type "str", false, rfl, .ty _, .base .non, kit_ty (by decide +kernel), false, rfl, iteT ?_⟩
      exact q
/-- a new list of the text's lines -/
def spLinesIn (K : PySem.W.Frag) : Sp := fun vs H Q _ => ∃ t : List Nat, vs = [.str (S t)] ∧ t.length ≤ 5000 ∧ ∀ H' p xs, Same H H' → H p = none → H' p = some (.lst xs) → Paired (LineAt K (hid p H')) xs (linesL t) → Q (.ref p) H'
theorem pd_app {α β : Type} {F : α → β → Prop} : ∀ {a c : List α} {b e : List β}, Paired F a b → Paired F c e → Paired F (a ++ c) (b ++ e)
  | _, _, _, _, .nil, h => h
  | _, _, _, _, .cons r t, h => .cons r (pd_app t h)
theorem dk_lines_in (T : Tx K mg d) : DK P w K mg base CX0 2 "lines_in" (spLinesIn K) := by
  have d_words_in : DK P w K mg base CX0 1 "words_in" spWordsIn := dk_words_in T
  refine T.d_lines_in.dk0 sc_lines_in (fun vs H Q E h => ?_) fun f cdv A outer s H vs Q E hr h => ?_
  · obtain ⟨_, rfl, _⟩ := h
    rfl
  · obtain ⟨t, rfl, hl, q⟩ := h
    have t0 : ∀ H : Hp, Tb [] H := fun _ _ z => by simp at z
    refine ⟨_, (pss_cons (ps_set (i := 1) sc_lines_in.nd rfl (Or.inl rfl) (pe_split (pv 0) pe_str))
    (pss_one (ps_ret (by exact (pe_lc (own := [("at", 2), ("line", 3)]) (by rfl) sc_lines_in.nd (pi_enumK K rfl (by rfl) T.f_enumerate (pa_cons (pv 1) pa_nil)) (blkOk_by (own := [("at", 2), ("line", 3)]) (N := n_lines_in) (sc := defScope s_lines_in) (by decide +kernel)) (fun _ _ _ _ _ => by exact (pg_tupK K rfl (n := 2) (by rfl) (pgs_cons (pg_name (i := 2) sc_lines_in.nd rfl (Or.inl rfl)) (pgs_cons (pg_name (i := 3) sc_lines_in.nd rfl (Or.inl rfl)) pgs_nil)))) (fun _ _ _ _ _ => by exact (pts_one (pt_truthK K rfl (pe_d d_words_in hr (by decide) rfl pass0 (pa_cons (pv 3) pa_nil)) (by intro _; rfl)))) (fun _ _ _ _ _ => by exact (pe_tup (pa_cons (pe_d d_words_in hr (by decide) rfl pass0 (pa_cons (pv 3) pa_nil)) (pa_cons (pe_op op_add (pv 2) pe_int) pa_nil))))))))), ?_⟩
    refine ⟨_, rfl, ⟨_, rfl⟩, S t, _, rfl, rfl, by decide +kernel, by rw [S_len, sizeLine_eq]; omega, fun a na => ?_⟩
    rw [split_nl]
    have hcl := cutAt_length_le 10 t
    refine ⟨_, rfl, a, _, rfl, SqL.of upd_same, fun D nD => ?_⟩
    have g0 : Go [] H (upd H a (.lst (((cutAt 10 t).map S).map V.str))) := Go.new (t0 _) na
    refine lc_acc (walk_enum (xs := ((cutAt 10 t).map S).map V.str)) (t0 _) nD (fun H' g => g.sl (SqL.of upd_same)) ypair_same (by simp; omega) (fun i acc H' => Paired (LineAt K H') acc (numbered ((cutAt 10 t).take i) 1)) (fun i acc H1 H2 g p => Lines.go g p) .nil
      (fun i x H1 H2 acc Post hi go hD hacc hy gy hp => ?_) (fun H1 acc g1 e1 _ p1 => ?_)
    · obtain ⟨tp, y, z, rfl, nt, rfl, e1, e2⟩ := hy
      have e1 := (Option.some.inj e1).symm
      subst e1
      replace e2 : (((cutAt 10 t).map S).map V.str)[i]? = some z := e2
      obtain ⟨c, hc, rfl⟩ : ∃ c, (cutAt 10 t)[i]? = some c ∧ z = .str (S c) := by
        rw [List.getElem?_map, List.getElem?_map] at e2
        cases e : (cutAt 10 t)[i]? with
        | none => rw [e] at e2; cases e2
        | some c => rw [e] at e2; exact ⟨c, rfl, (Option.some.inj e2).symm⟩
      have hcp := (cutAt_part 10 t c (List.mem_of_getElem? hc)).2
      refine ⟨tp, _, rfl, .inl (.inl upd_same), rfl, _, _, rfl, _, _, rfl, ⟨rfl, rfl, _, rfl, c, rfl, by omega, fun H3 p3 s3 n3 hp3 => ?_⟩⟩
      have et : (cutAt 10 t).take (i + 1) = (cutAt 10 t).take i ++ [c] := by
        rw [List.take_succ, hc]
        rfl
      have il : ((cutAt 10 t).take i).length = i := by
        rw [List.length_take]
        simp at hi
        omega
      have g3 := gy.trans (go_same s3)
      refine ⟨!((wordsL c).map wV).isEmpty, Or.inl ⟨_, SqL.of hp3, rfl⟩, ?_⟩
      by_cases hz : wordsL c = []
      · rw [hz]
        refine iteF (hp H3 none g3 ?_)
        show Paired _ (acc ++ []) _
        rw [List.append_nil, et, numbered_app]
        have e9 : numbered [c] (1 + (((cutAt 10 t).take i).length : Int)) = [] := by
          rw [numbered_cons, if_pos hz]
          rfl
        rw [e9, List.append_nil]
        exact Lines.go (go_hid g3 (by simp)) hacc
      · have hne : (!((wordsL c).map wV).isEmpty) = true := by
          cases h : wordsL c with
          | nil => exact absurd h hz
          | cons a b => rfl
        rw [hne]
        refine iteT ⟨_, rfl, c, rfl, by omega, fun H4 p4 s4 n4 hp4 => ?_⟩
        refine ⟨_, rfl, _, _, rfl, rfl, (show (2 : Nat) ≤ sizeLine by decide), fun p5 n5 => ?_⟩
        have g4 := g3.trans (go_same s4)
        have g5 := g4.then n5 (o := .tup [.ref p4, .int ((i : Nat) + 1)])
        have hD4 : H4 D = some (.lst acc) := g4.lst hD
        refine hp _ (some _) g5 ?_
        show Paired _ (acc ++ [_]) _
        rw [et, numbered_app]
        have e9 : numbered [c] (1 + (((cutAt 10 t).take i).length : Int)) = [(wordsL c, 1 + (i : Int))] := by
          rw [numbered_cons, if_neg hz, il]
          rfl
        rw [e9]
        refine pd_app (Lines.go (go_hid g5 (by simp)) hacc) (.cons ⟨p5, .ref p4, rfl, .inl (.inl ?_), p4, rfl, SqL.of ?_⟩ .nil)
        · rw [hid_ne (fun z => by rw [z, hD4] at n5; cases n5), upd_same]
          rw [show (1 + (i : Int)) = ((i : Nat) : Int) + 1 by omega]
        · have h45 : p4 ≠ p5 := fun z => by rw [z, n5] at hp4; cases hp4
          have h4D : p4 ≠ D := fun z => by rw [z, hD4] at hp4; rw [z, g3.lst hD] at n4; cases n4
          rw [hid_ne h4D, upd_ne h45]
          exact hp4
    · rw [List.length_map, List.length_map, List.take_length] at p1
      refine q H1 D acc (same_go (g0.trans g1)) (g0.free nD) e1 p1
end
end HK
set_option Elab.async false
set_option linter.all false
set_option maxRecDepth 100000
set_option maxHeartbeats 1000000
namespace HK
open PySem PySem.Spec PyProof.Rows L2 SX
theorem tb_unhid {T : List Addr} {a : Addr} {H : Hp} (t : Tb T (hid a H)) : Tb T H := fun P hP => by
  obtain ⟨ps, e, r⟩ := t P hP
  refine ⟨ps, ?_, r⟩
  unfold hid at e
  by_cases h : P = a
  · rw [if_pos h] at e
    cases e
  · rw [if_neg h] at e
    exact e
theorem LineAt.ne {K : PySem.W.Frag} {H : Hp} {a : Addr} {v : V} {l : Line} (h : LineAt K (hid a H) v l) (t : Tb [] H) : LineAt K H v l := h.go (go_unhid t (by simp))
theorem t00 (H : Hp) : Tb [] H := fun _ z => by simp at z
section
variable {P : Program} {w : World} {K : PySem.W.Frag} {mg : Str → Option Value} {base : Heap} {d : Ad}
def spTaken (K : PySem.W.Frag) (d : Ad) : Sp := fun vs H Q E => ∃ (v : V) (ws : List (List Nat)) (k : Nat) (lo hi at_ : Int), vs = [v, .int k, .int lo, .int hi, .int at_] ∧ WordsAt K H v ws ∧ WsOk ws ∧ k ≤ 10 ∧ Tb d.T H ∧
  Out d H E (takenL ws k lo hi at_) fun n => ∀ H', Go d.T H H' → Q (.int n) H'
theorem dk_taken (T : Tx K mg d) (B : Tbs base mg d) : DK P w K mg base (L2.CX P w) 7 "taken" (spTaken K d) := by
  have d_whole_in : DK P w K mg base CX0 6 "whole_in" (spWholeIn d) := dk_whole_in T B
  refine T.d_taken.dkX sc_taken (fun vs H Q E h => ?_) fun f cdv A outer s H vs Q E hr h => ?_
  · obtain ⟨_, _, _, _, _, _, rfl, _⟩ := h
    rfl
  · obtain ⟨v, ws, k, lo, hi, at_, rfl, ⟨p, rfl, hp⟩, wok, hk, tb, o⟩ := h
    refine ⟨_, (pss_cons (ps_set (i := 5) sc_taken.nd rfl (Or.inl rfl) (pe_ifExp (pt_cmpR op_lt (pv 1) (pe_callB (call_lenK K rfl) (by rfl) T.f_len (by decide +kernel) (pa_cons (pv 0) pa_nil)) (nomark _)) (pe_d d_whole_in hr (by decide) rfl pass0 (pa_cons (pe_ix (ix_seqK K rfl) (pv 0) (pv 1) (fun _ _ => rfl)) (pa_cons (pv 2) (pa_cons (pv 3) pa_nil)))) pe_non))
    (pss_cons (ps_if (pt_cmpR op_isN (pv 5) pe_non (nomark _))
      (pss_one (ps_bad T hr (by decide) rfl rfl (takes_of rfl rfl rfl rfl) (pa_cons (pv 4) (pa_cons (pe_op op_add (pv 1) pe_int) pa_nil))))
      pss_nil)
    (pss_one (ps_ret (pv 5))))), ?_⟩
    have bad : (ws[k]?).bind (fun w => wholeL w lo hi) = none → Bad d H E (at_, (k : Int) + 1) := fun h => by
      unfold Out takenL at o
      rw [h] at o
      exact o
    have good : ∀ n, (ws[k]?).bind (fun w => wholeL w lo hi) = some n → ∀ H', Go d.T H H' → Q (.int n) H' := fun n h => by
      unfold Out takenL at o
      rw [h] at o
      exact o
    refine ⟨_, rfl, _, rfl, .ref p, ws.length, rfl, Or.inl ⟨_, hp, by simp⟩, _, _, rfl, rfl, decide (k < ws.length), ?_, ?_⟩
    · refine congrArg V.bl ?_
      rw [Bool.eq_iff_iff, decide_eq_true_eq, decide_eq_true_eq]
      omega
    by_cases c : k < ws.length
    · rw [decide_eq_true c]
      have ew : ws[k]? = some ws[k] := List.getElem?_eq_getElem c
      refine iteT ⟨_, rfl, _, rfl, Or.inl ⟨p, _, k, .str (S ws[k]), rfl, rfl, hp, atI_nat (by rw [List.getElem?_map, ew]; rfl), ?_⟩⟩
      refine ⟨_, rfl, _, rfl, ws[k], lo, hi, rfl, ?_, tb, fun H1 g1 => ?_⟩
      · have := wok.2 ws[k] (List.getElem_mem c)
        omega
      rw [ew] at bad good
      cases e : wholeL ws[k] lo hi with
      | none =>
        refine ⟨_, rfl, rfl, true, rfl, iteT ?_⟩
        refine ⟨_, rfl, _, rfl, _, _, rfl, rfl, at_, (k : Int) + 1, rfl, fun H2 dx s2 n2 x2 => ?_⟩
        exact bad e H2 dx (g1.trans (Go.same g1.t1 s2)) x2
      | some n =>
        refine ⟨_, rfl, rfl, false, rfl, iteF ?_⟩
        exact ⟨_, rfl, good n e H1 g1⟩
    · rw [decide_eq_false c]
      refine iteF ⟨_, rfl, rfl, true, rfl, iteT ?_⟩
      refine ⟨_, rfl, _, rfl, _, _, rfl, rfl, at_, (k : Int) + 1, rfl, fun H2 dx s2 n2 x2 => ?_⟩
      exact bad (by rw [List.getElem?_eq_none (by omega)]; rfl) H2 dx (Go.same tb s2) x2
def spNeedEnd (K : PySem.W.Frag) (d : Ad) : Sp := fun vs H Q E => ∃ (v : V) (ws : List (List Nat)) (many : Nat) (at_ : Int), vs = [v, .int many, .int at_] ∧ WordsAt K H v ws ∧ Tb d.T H ∧ Out d H E (endL ws many at_) fun _ => Q .non H
theorem dk_need_end (T : Tx K mg d) : DK P w K mg base (L2.CX P w) 4 "need_end" (spNeedEnd K d) := by
  refine T.d_need_end.dkX sc_need_end (fun vs H Q E h => ?_) fun f cdv A outer s H vs Q E hr h => ?_
  · obtain ⟨_, _, _, _, rfl, _⟩ := h
    rfl
  · obtain ⟨v, ws, many, at_, rfl, ⟨p, rfl, hp⟩, tb, o⟩ := h
    refine ⟨_, (pss_one (ps_if (pt_cmpR op_gt (pe_callB (call_lenK K rfl) (by rfl) T.f_len (by decide +kernel) (pa_cons (pv 0) pa_nil)) (pv 1) (nomark _))
      (pss_one (ps_bad T hr (by decide) rfl rfl (takes_of rfl rfl rfl rfl) (pa_cons (pv 2) (pa_cons (pe_op op_add (pv 1) pe_int) pa_nil))))
      pss_nil)), ?_⟩
    unfold Out endL at o
    refine ⟨_, rfl, .ref p, ws.length, rfl, Or.inl ⟨_, hp, by simp⟩, _, rfl, _, _, rfl, rfl, decide (many < ws.length), ?_, ?_⟩
    · refine congrArg V.bl ?_
      rw [Bool.eq_iff_iff, decide_eq_true_eq, decide_eq_true_eq]
      omega
    by_cases c : many < ws.length
    · rw [decide_eq_true c]
      rw [if_pos c] at o
      refine iteT ⟨_, rfl, _, rfl, _, _, rfl, rfl, at_, (many : Int) + 1, rfl, fun H2 dx s2 n2 x2 => ?_⟩
      exact o H2 dx (Go.same tb s2) x2
    · rw [decide_eq_false c]
      rw [if_neg c] at o
      exact iteF o
end
end HK
set_option Elab.async false
set_option linter.all false
set_option maxRecDepth 100000
set_option maxHeartbeats 1000000
namespace HK
open PySem PySem.Spec PyProof.Rows L2 SX
section
variable {P : Program} {w : World} {K : PySem.W.Frag} {mg : Str → Option Value} {base : Heap} {d : Ad}
/-- the next line is taken off -/
def spNumLine (K : PySem.W.Frag) (d : Ad) : Sp := fun vs H Q E => ∃ (a : Addr) (xs : List V) (ls : List Line) (fin lo hi : Int) (word : List Nat), vs = [.ref a, .int fin, .str (S word), .int lo, .int hi] ∧ H a = some (.lst xs) ∧ Paired (LineAt K (hid a H)) xs ls ∧ LsOk ls ∧ ls.length ≤ 6000 ∧ word ≠ [] ∧ Tb d.T H ∧
  match numLineL ls fin word lo hi with
  | .ok (n, rest) => ∀ H' xs', Go d.T (hid a H) (hid a H') → H' a = some (.lst xs') → Paired (LineAt K (hid a H')) xs' rest → Q (.int n) H'
  | .error e => ∀ H' dx, Go d.T (hid a H) (hid a H') → H' dx = some (.xd (badFs e.1 e.2)) → E (.ref d.CB) (some dx) H'
theorem dk_number_line (T : Tx K mg d) (B : Tbs base mg d) : DK P w K mg base (L2.CX P w) 8 "number_line" (spNumLine K d) := by
  have d_taken : DK P w K mg base (L2.CX P w) 7 "taken" (spTaken K d) := dk_taken T B
  have d_need_end : DK P w K mg base (L2.CX P w) 4 "need_end" (spNeedEnd K d) := dk_need_end T
  refine T.d_number_line.dkX sc_number_line (fun vs H Q E h => ?_) fun f cdv A outer s H vs Q E hr h => ?_
  · obtain ⟨_, _, _, _, _, _, _, rfl, _⟩ := h
    rfl
  · obtain ⟨a, xs, ls, fin, lo, hi, word, rfl, ha, hls, lok, hlen, hword, tb, o⟩ := h
    have nT : a ∉ d.T := tb.no ha fun _ z => by cases z
    refine ⟨_, (pss_cons (ps_asg (pe_ifExp (pt_truthK K rfl (pv 0) (by intro _; rfl)) (pe_bm PySem.F.plainAttrs_list PySem.F.slot_list_pop PySem.F.type_list_pop mt_popAt (pv 0) (pa_cons pe_int pa_nil)) (pe_tup (pa_cons (pe_lst (pa_cons pe_str pa_nil)) (pa_cons (pv 1) pa_nil)))) (pg_tupK K rfl (n := 2) (by rfl) (pgs_cons (pg_name (i := 5) sc_number_line.nd rfl (Or.inl rfl)) (pgs_cons (pg_name (i := 6) sc_number_line.nd rfl (Or.inl rfl)) pgs_nil))))
    (pss_cons (ps_if (pt_cmpR op_ne (pe_ix (ix_seqK K rfl) (pv 5) pe_int (fun _ _ => rfl)) (pv 2) (nomark _))
      (pss_one (ps_bad T hr (by decide) rfl rfl (takes_of rfl rfl rfl rfl) (pa_cons (pv 6) (pa_cons pe_int pa_nil))))
      pss_nil)
    (pss_cons (ps_set (i := 7) sc_number_line.nd rfl (Or.inl rfl) (pe_d d_taken hr (by decide) rfl passE (pa_cons (pv 5) (pa_cons pe_int (pa_cons (pv 3) (pa_cons (pv 4) (pa_cons (pv 6) pa_nil)))))))
    (pss_cons (ps_expr (pe_d d_need_end hr (by decide) rfl passE (pa_cons (pv 5) (pa_cons pe_int (pa_cons (pv 6) pa_nil)))))
    (pss_one (ps_ret (pv 7))))))), ?_⟩
    refine ⟨_, rfl, !xs.isEmpty, Or.inl ⟨_, SqL.of ha, rfl⟩, ?_⟩
    cases hls with
    | nil =>
      refine iteF ⟨(show (1 : Nat) ≤ sizeLine by decide), fun p1 n1 => ⟨_, rfl, (show (2 : Nat) ≤ sizeLine by decide), fun p2 n2 => ?_⟩⟩
      have h12 : p1 ≠ p2 := ne_of_none upd_same n2
      refine ⟨p2, _, rfl, .inl (.inl upd_same), rfl, _, _, rfl, _, _, rfl, rfl, ?_⟩
      have hp1 : SqL K (upd (upd H p1 (.lst [.str ""])) p2 (.tup [.ref p1, .int fin])) p1 [.str ""] := SqL.of (by rw [upd_ne h12]; exact upd_same)
      refine ⟨_, rfl, Or.inl ⟨p1, _, 0, _, rfl, rfl, hp1, rfl, ?_⟩⟩
      refine ⟨_, rfl, rfl, true, ?_, iteT ?_⟩
      · rw [w_empty, S_dec]
        cases word with
        | nil => exact absurd rfl hword
        | cons a b => rfl
      refine ⟨_, rfl, fin, 1, rfl, fun H2 dx s2 n3 x2 => ?_⟩
      have g2 := ((Go.new tb n1).then n2).trans (Go.same (((Go.new tb n1).then n2).t1) s2)
      exact o H2 dx (go_hid g2 nT) x2
    | @cons v l xs ls hv hls =>
      have hl := lok l (by simp)
      obtain ⟨ws, at_⟩ := l
      have hpop : seqIndex? 0 (v :: xs).length = some 0 := by
        unfold seqIndex?
        simp
      refine iteT ⟨_, rfl, Or.inl ⟨rfl, _, SqL.of ha⟩, a, v :: xs, 0, 0, v, rfl, rfl, ha, by decide, by decide, hpop, rfl, ?_⟩
      show _
      have eh : hid a (upd H a (.lst xs)) = hid a H := hid_upd
      have tb1 : Tb d.T (upd H a (.lst xs)) := tb_unhid (a := a) (by rw [eh]; exact tb_hid tb nT)
      obtain ⟨p, wv, rfl, hp, hw⟩ := hv
      have g1 : Go d.T (hid a H) (upd H a (.lst xs)) := by
        rw [← eh]
        exact go_unhid tb1 nT
      have hp1 := g1.st hp
      have hw1 : WordsAt K (upd H a (.lst xs)) wv ws := hw.go g1
      obtain ⟨q1, rfl, hq1⟩ := id hw1
      refine ⟨p, _, rfl, hp1, rfl, _, _, rfl, _, _, rfl, rfl, ?_⟩
      obtain ⟨w0, wr, rfl⟩ : ∃ w0 wr, ws = w0 :: wr := by
        cases ws with
        | nil => exact absurd rfl hl.1
        | cons a b => exact ⟨a, b, rfl⟩
      refine ⟨_, rfl, Or.inl ⟨q1, _, 0, _, rfl, rfl, hq1, at0, ?_⟩⟩
      have gh : ∀ {H2 : Hp}, Go d.T (upd H a (.lst xs)) H2 → Go d.T (hid a H) (hid a H2) := fun g => by
        have := go_hid g nT
        rw [eh] at this
        exact this
      unfold numLineL at o
      simp only [List.head?_cons, Option.some.injEq] at o
      refine ⟨_, rfl, rfl, !decide (w0 = word), ?_, ?_⟩
      · refine congrArg (fun b => V.bl (!b)) ?_
        rw [show decide (wV w0 = V.str (S word)) = (w0 == word) from S_dec _ _, Bool.eq_iff_iff]
        simp
      by_cases c : w0 = word
      · rw [decide_eq_true c]
        rw [if_pos c] at o
        refine iteF ⟨_, rfl, _, rfl, _, rfl, _, rfl, ?_⟩
        refine ⟨_, w0 :: wr, 1, lo, hi, at_, rfl, hw1, hl.2, by omega, tb1, ?_⟩
        unfold Out
        cases et : takenL (w0 :: wr) 1 lo hi at_ with
        | error e =>
          rw [et] at o
          exact fun H2 dx g x => o H2 dx (gh g) x
        | ok n =>
          rw [et] at o
          intro H2 g2
          refine ⟨_, rfl, _, rfl, ?_⟩
          refine ⟨_, w0 :: wr, 2, at_, rfl, hw1.go g2, g2.t1, ?_⟩
          unfold Out
          simp only at o
          cases ee : endL (w0 :: wr) 2 at_ with
          | error e =>
            rw [ee] at o
            exact fun H3 dx g x => o H3 dx (gh (g2.trans g)) x
          | ok u =>
            rw [ee] at o
            refine ⟨_, rfl, ?_⟩
            have h9 := gh g2
            exact o H2 xs h9 (g2.lst upd_same) (Lines.go h9 hls)
      · rw [decide_eq_false c]
        rw [if_neg c] at o
        refine iteT ⟨_, rfl, at_, 1, rfl, fun H2 dx s2 n3 x2 => ?_⟩
        exact o H2 dx (gh (Go.same tb1 s2)) x2
end
end HK
set_option Elab.async false
set_option linter.all false
set_option maxRecDepth 100000
set_option maxHeartbeats 1000000
namespace HK
open PySem PySem.Spec PyProof.Rows L2 SX
/-! ### two lists that change: the lines that are left, the ties so far -/
theorem go_un {T : List Addr} {a : Addr} {H H' : Hp} (n : H a = none) (g : Go T H (hid a H')) : Go T H H' := g.trans (go_unhid (tb_unhid g.t1) (g.t0.nofree n))
theorem hid_swap {a b : Addr} {H : Hp} {o : HO} : hid b (hid a (upd H b o)) = hid b (hid a H) := by
  funext c
  unfold hid
  by_cases h : c = b
  · rw [if_pos h, if_pos h]
  · rw [if_neg h, if_neg h]
    by_cases k : c = a
    · rw [if_pos k, if_pos k]
    · rw [if_neg k, if_neg k, upd_ne h]
structure Rst (K : PySem.W.Frag) (T : List Addr) (a b : Addr) (H H' : Hp) (xs : List V) (ls : List Line) (ys : List V) (acc : List (Int × Int)) : Prop where
  go : Go T H (hid b (hid a H'))
  la : H' a = some (.lst xs)
  lb : H' b = some (.lst ys)
  xl : Paired (LineAt K (hid b (hid a H'))) xs ls
  yt : IntTups K (hid b (hid a H')) ys (acc.map fun t => [t.1, t.2])
section
variable {K : PySem.W.Frag} {T : List Addr} {a b : Addr} {H H' H2 : Hp} {xs : List V} {ls : List Line} {ys : List V} {acc : List (Int × Int)}
theorem Rst.out (r : Rst K T a b H H' xs ls ys acc) (na : H a = none) (nb : H b = none) : Go T H H' := go_un na (go_un nb r.go)
theorem un0 : Go [] (hid b (hid a H')) H' := (go_unhid (t00 _) (by simp)).trans (go_unhid (t00 _) (by simp))
theorem Rst.move (r : Rst K T a b H H' xs ls ys acc) (na : H a = none) (nb : H b = none) (g : Go T H' H2) : Rst K T a b H H2 xs ls ys acc := by
  have g2 := go_hid (go_hid g (r.go.t0.nofree na)) (r.go.t0.nofree nb)
  exact ⟨r.go.trans g2, g.lst r.la, g.lst r.lb, Lines.go g2 r.xl, r.yt.go g2⟩
theorem Rst.pop {v : V} {l : Line} (hab : a ≠ b) (r : Rst K T a b H H' (v :: xs) (l :: ls) ys acc) : Rst K T a b H (upd H' a (.lst xs)) xs ls ys acc ∧ LineAt K (upd H' a (.lst xs)) v l := by
  have e : hid a (upd H' a (.lst xs)) = hid a H' := hid_upd
  have hx := r.xl
  cases hx with
  | cons h1 h2 =>
    refine ⟨⟨by rw [e]; exact r.go, upd_same, by rw [upd_ne (Ne.symm hab)]; exact r.lb, by rw [e]; exact h2, by rw [e]; exact r.yt⟩, ?_⟩
    have : LineAt K (hid b (hid a (upd H' a (.lst xs)))) v l := by
      rw [e]
      exact h1
    exact this.go un0
theorem Rst.app {p : Addr} {t : Int × Int} (hab : a ≠ b) (r : Rst K T a b H H' xs ls ys acc) (hp : H' p = some (.tup [.int t.1, .int t.2])) : Rst K T a b H (upd H' b (.lst (ys ++ [.ref p]))) xs ls (ys ++ [.ref p]) (acc ++ [t]) := by
  refine ⟨by rw [hid_swap]; exact r.go, by rw [upd_ne hab]; exact r.la, upd_same, by rw [hid_swap]; exact r.xl, ?_⟩
  rw [hid_swap, List.map_append]
  refine pd_app r.yt (.cons ⟨p, rfl, .inl (.inl ?_)⟩ .nil)
  rw [hid_ne (fun z => by rw [z, r.lb] at hp; cases hp), hid_ne (fun z => by rw [z, r.la] at hp; cases hp)]
  exact hp
theorem rd_hid {u : HO} {c : Addr} {H0 : Hp} (hb : H0 b = some (.lst [])) (n1 : u ≠ .lst []) (h : Rd H0 c u) : Rd (hid b H0) c u := by
  have n : c ≠ b := fun z => by
    rw [z] at h
    rcases h with h | ⟨o, h⟩
    · rw [hb] at h
      exact n1 (Option.some.inj h).symm
    · rw [hb] at h
      cases h
  rcases h with h | ⟨o, h⟩
  · exact .inl (by rw [hid_ne n]; exact h)
  · exact .inr ⟨o, by rw [hid_ne n]; exact h⟩
theorem LineAt.hide {H0 : Hp} {v : V} {l : Line} (hb : H0 b = some (.lst [])) (hl : l.1 ≠ []) (h : LineAt K H0 v l) : LineAt K (hid b H0) v l := by
  obtain ⟨p, w, rfl, hp, q, rfl, hq⟩ := h
  refine ⟨p, _, rfl, ?_, q, rfl, ?_⟩
  · rcases hp with hp | hp
    · exact .inl (rd_hid hb (fun z => by cases z) hp)
    · exact .inr hp
  · rcases hq with hq | hq
    · refine .inl (rd_hid hb (fun z => ?_) hq)
      have := HO.lst.inj z
      exact hl (List.map_eq_nil_iff.mp this)
    · exact .inr hq
theorem Lines.hide {H0 : Hp} (hb : H0 b = some (.lst [])) : ∀ {xs : List V} {ls : List Line}, (∀ l ∈ ls, l.1 ≠ []) → Paired (LineAt K H0) xs ls → Paired (LineAt K (hid b H0)) xs ls
  | _, _, _, .nil => .nil
  | _, _, hl, .cons h t => .cons (h.hide hb (hl _ (by simp))) (Lines.hide hb (fun l hm => hl l (List.mem_cons_of_mem _ hm)) t)
theorem Rst.ties (r : Rst K T a b H H' xs ls ys acc) : IntTups K H' ys (acc.map fun t => [t.1, t.2]) := IntTups.go un0 r.yt
theorem Rst.lines (r : Rst K T a b H H' xs ls ys acc) : Paired (LineAt K H') xs ls := Lines.go un0 r.xl
theorem pd_last {α β : Type} {F : α → β → Prop} : ∀ {xs : List α} {ys : List β} {y : β}, Paired F xs ys → ys.getLast? = some y → ∃ xs' x, xs = xs' ++ [x] ∧ F x y
  | _, _, _, .nil, e => by simp at e
  | _, [_], y, .cons r .nil, e => by
    have e2 : _ = y := Option.some.inj e
    simp only [List.getLast_singleton] at e2
    rw [e2] at r
    exact ⟨[], _, rfl, r⟩
  | x :: _, _ :: v :: r, y, .cons _ t, e => by
    obtain ⟨xs', z, h1, h2⟩ := pd_last (y := y) t (by simpa using e)
    exact ⟨x :: xs', z, by rw [h1]; rfl, h2⟩
end
theorem lexLe_pair (a1 a2 b1 b2 : Int) : Ob.lexAt (fun j => decide (([a1, a2] : List Int).getD j 0 = ([b1, b2] : List Int).getD j 0)) (fun j => decide (([a1, a2] : List Int).getD j 0 ≤ ([b1, b2] : List Int).getD j 0)) (decide (([a1, a2] : List Int).length ≤ ([b1, b2] : List Int).length)) 0 (min ([a1, a2] : List Int).length ([b1, b2] : List Int).length) =
    decide (a1 < b1 ∨ (a1 = b1 ∧ a2 ≤ b2)) := by
  rw [show min ([a1, a2] : List Int).length ([b1, b2] : List Int).length = 2 from rfl, Ob.lexAt_succ, Ob.lexAt_succ, Ob.lexAt_zero]
  show (if decide (a1 = b1) = true then (if decide (a2 = b2) = true then decide ((2 : Nat) ≤ 2) else decide (a2 ≤ b2)) else decide (a1 ≤ b1)) = _
  rw [Bool.eq_iff_iff]
  by_cases h : a1 = b1
  · rw [if_pos (decide_eq_true h)]
    by_cases k : a2 = b2
    · rw [if_pos (decide_eq_true k)]
      simp only [decide_eq_true_eq]
      omega
    · rw [if_neg (by rw [decide_eq_false k]; decide)]
      simp only [decide_eq_true_eq]
      omega
  · rw [if_neg (by rw [decide_eq_false h]; decide)]
    simp only [decide_eq_true_eq]
    omega
theorem ties_few {n : Int} {ts : List (Int × Int)} (hn : n ≤ 7) (ha : ts.Pairwise ltP) (ho : ∀ t ∈ ts, TieOk n t) : ts.length < 30 := by
  let M : List Int := [1, 2, 3, 4, 5, 6, 9, 10, 11, 12, 13, 17, 18, 19, 20, 25, 26, 27, 33, 34, 41]
  have h := nodup_le (L := ts.map fun t => t.1 * 7 + t.2) (M := M) ?_ ?_
  · rw [List.length_map] at h
    have : M.length = 21 := rfl
    omega
  · rw [List.nodup_iff_pairwise_ne, List.pairwise_map]
    refine List.Pairwise.imp_of_mem (fun {x y} hx hy hxy => ?_) ha
    have h1 := ho x hx
    have h2 := ho y hy
    unfold TieOk at h1 h2
    unfold ltP at hxy
    omega
  · intro c hc
    obtain ⟨t, ht, rfl⟩ := List.mem_map.mp hc
    have h1 := ho t ht
    unfold TieOk at h1
    obtain ⟨x, y⟩ := t
    simp only at h1 ⊢
    simp only [M, List.mem_cons, List.not_mem_nil, or_false]
    have hx : x = 0 ∨ x = 1 ∨ x = 2 ∨ x = 3 ∨ x = 4 ∨ x = 5 := by omega
    rcases hx with rfl | rfl | rfl | rfl | rfl | rfl <;> omega
end HK
set_option Elab.async false
set_option linter.all false
set_option maxRecDepth 100000
set_option maxHeartbeats 1000000
namespace HK
open PySem PySem.Spec PyProof.Rows L2 SX
theorem connB_iff {n : Int} {ts : List (Int × Int)} : connB n ts = true ↔ Conn n ts := by
  unfold connB
  exact @decide_eq_true_iff _ (Classical.propDecidable _)
theorem numLine_tail {lines : List Line} {fin : Int} {word : List Nat} {lo hi n : Int} {r : List Line} (h : numLineL lines fin word lo hi = .ok (n, r)) : ∃ l, lines = l :: r := by
  unfold numLineL at h
  split at h
  · cases h
  · rename_i ws at_ r'
    split at h
    · split at h
      · cases h
      · split at h
        · cases h
        · have e := Except.ok.inj h
          cases e
          exact ⟨_, rfl⟩
    · cases h
theorem while_it {c : TT} {tb : TS} {D : Ends} {σ : L2.St} {H : Hp} (Pv : Nat → L2.St → Hp → Prop) (Ex : L2.St → Hp → Prop) (h0 : ∃ m, Pv m σ H)
    (hs : (∀ σ H, Ex σ H → D.nx σ H) → ∀ m σ H, Pv m σ H → c σ H fun b H1 => if b = true then ∃ N : L2.St → Hp → Prop, (∀ σ' H', N σ' H' → ∃ m', m' < m ∧ Pv m' σ' H') ∧ tb { D with nx := N, ct := N, bk := D.nx } σ H1 else D.nx σ H1)
    (hd : ∀ σ H, Ex σ H → D.nx σ H) : tWhile c tb D σ H := ⟨Pv, h0, hs hd⟩
section
variable {P : Program} {w : World} {K : PySem.W.Frag} {mg : Str → Option Value} {base : Heap} {d : Ad}
theorem dp_ties {H : Hp} : ∀ {ys : List V} {ts : List (Int × Int)}, IntTups K H ys (ts.map fun t => [t.1, t.2]) → DpAll K H ys (ts.map tieD)
  | [], [], _ => .nil
  | _ :: _, t :: ts, .cons h r => by
    obtain ⟨p, rfl, hp⟩ := h
    exact .cons (.tup hp (.cons (.int _) (.cons (.int _) .nil))) (dp_ties r)
theorem late_test {a : Addr} {σ : L2.St} {H : Hp} {b : Addr} {ys : List V} {acc : List (Int × Int)} {one : Int} {Q : Bool → Hp → Prop} (h3 : σ[3]? = some (some (.ref b))) (h7 : σ[7]? = some (some (.int one))) (hb : H b = some (.lst ys)) (yt : IntTups K H ys (acc.map fun t => [t.1, t.2])) (q : Q (lateA acc one) H) :
    tAnd (tTru K (tVar 3)) (tTest (tOp (rI0 fun i j => .bl (decide (i < j))) (tVar 7) (tOp (rIx K) (tOp (rIx K) (tVar 3) (tUn (rU fun i => .int (-i)) (tC (.int 1)))) (tC (.int 0))))) σ H Q := by
  refine ⟨_, h3, !ys.isEmpty, Or.inl ⟨_, SqL.of hb, rfl⟩, ?_⟩
  unfold lateA at q
  cases eg : acc.getLast? with
  | none =>
    have : acc = [] := by simpa using eg
    subst this
    cases yt
    exact iteF q
  | some pt =>
    rw [eg] at q
    obtain ⟨ys', v, rfl, p8, rfl, hp8⟩ := pd_last yt (y := [pt.1, pt.2]) (by rw [List.getLast?_map, eg]; rfl)
    rw [show (!(ys' ++ [V.ref p8]).isEmpty) = true by cases ys' <;> rfl]
    refine iteT ⟨_, h7, _, h3, _, rfl, Or.inl ⟨b, _, -1, _, rfl, rfl, SqL.of hb, atI_last _ _, Or.inr (Or.inl ⟨p8, _, 0, _, rfl, rfl, hp8, rfl, ?_⟩)⟩⟩
    exact ⟨_, _, rfl, rfl, _, rfl, q⟩
theorem late_test2 {T : List Addr} {σ : L2.St} {H : Hp} {b : Addr} {ys : List V} {acc : List (Int × Int)} {one other : Int} {Q : Bool → Hp → Prop} (h3 : σ[3]? = some (some (.ref b))) (h7 : σ[7]? = some (some (.int one))) (h8 : σ[8]? = some (some (.int other))) (tb : Tb T H)
    (hb : H b = some (.lst ys)) (yt : IntTups K H ys (acc.map fun t => [t.1, t.2])) (q : ∀ H', Go T H H' → Q (lateB acc (one, other)) H') :
    tAnd (tTru K (tVar 3)) (tTest (tOp (rLeT K) (tTup (tCons (tVar 7) (tCons (tVar 8) tNil))) (tOp (rIx K) (tVar 3) (tUn (rU fun i => .int (-i)) (tC (.int 1)))))) σ H Q := by
  refine ⟨_, h3, !ys.isEmpty, Or.inl ⟨_, SqL.of hb, rfl⟩, ?_⟩
  unfold lateB at q
  cases eg : acc.getLast? with
  | none =>
    have : acc = [] := by simpa using eg
    subst this
    cases yt
    exact iteF (q H (Go.refl tb))
  | some pt =>
    rw [eg] at q
    obtain ⟨ys', v, rfl, p8, rfl, hp8⟩ := pd_last yt (y := [pt.1, pt.2]) (by rw [List.getLast?_map, eg]; rfl)
    rw [show (!(ys' ++ [V.ref p8]).isEmpty) = true by cases ys' <;> rfl]
    refine iteT ⟨_, h7, _, h8, (show (2 : Nat) ≤ sizeLine by decide), fun p np => ?_⟩
    have g1 := Go.new (o := .tup [.int one, .int other]) tb np
    refine ⟨_, h3, _, rfl, Or.inl ⟨b, _, -1, _, rfl, rfl, g1.sl (SqL.of hb), atI_last _ _, ?_⟩⟩
    refine ⟨p, p8, [one, other], [pt.1, pt.2], rfl, rfl, .inl (.inl upd_same), g1.st hp8, ?_⟩
    rw [lexLe_pair]
    exact ⟨_, rfl, q _ g1⟩
theorem begin_ {σ : L2.St} {H : Hp} {a : Addr} {xs : List V} {ls : List Line} {fin : Int} {Q : VK} (h1 : σ[1]? = some (some (.ref a))) (h2 : σ[2]? = some (some (.int fin))) (ha : H a = some (.lst xs)) (hx : Paired (LineAt K H) xs ls) (q : Q (.int (beginL ls fin)) H) :
    tIf (tTru K (tVar 1)) (tOp (rIx K) (tOp (rIx K) (tVar 1) (tC (.int 0))) (tC (.int 1))) (tVar 2) σ H Q := by
  refine ⟨_, h1, !xs.isEmpty, Or.inl ⟨_, SqL.of ha, rfl⟩, ?_⟩
  cases hx with
  | nil => exact iteF ⟨_, h2, q⟩
  | cons hv t =>
    obtain ⟨pl, wv, rfl, hp, _⟩ := hv
    exact iteT ⟨_, h1, Or.inl ⟨a, _, 0, _, rfl, rfl, SqL.of ha, at0, Or.inr (Or.inl ⟨pl, _, 1, _, rfl, rfl, hp, rfl, q⟩)⟩⟩
def spReadYard (K : PySem.W.Frag) (d : Ad) : Sp := fun vs H Q E => Tb d.T H ∧ ((∃ t : List Nat, vs = [.str (S t)] ∧ t.length ≤ 5000 ∧ Out d H E (readYardL t) fun y => ∀ H' v, Go d.T H H' → Dp K H' v (yardD y) → Q v H') ∨ (vs = [.non] ∧ E (.ref d.CS) none H))
theorem dk_read_yard (T : Tx K mg d) (B : Tbs base mg d) : DK P w K mg base (L2.CX P w) 9 "read_yard" (spReadYard K d) := by
  have d_need_text : DK P w K mg base (L2.CX P w) 2 "need_text" (spNeedText d) := dk_need_text T
  have d_lines_in : DK P w K mg base CX0 2 "lines_in" (spLinesIn K) := dk_lines_in T
  have d_number_line : DK P w K mg base (L2.CX P w) 8 "number_line" (spNumLine K d) := dk_number_line T B
  have d_taken : DK P w K mg base (L2.CX P w) 7 "taken" (spTaken K d) := dk_taken T B
  have d_need_end : DK P w K mg base (L2.CX P w) 4 "need_end" (spNeedEnd K d) := dk_need_end T
  have d_hanging : DK P w K mg base CX0 2 "hanging" (spHanging K) := dk_hanging T
  refine T.d_read_yard.dkX sc_read_yard (fun vs H Q E h => ?_) fun f cdv A outer s H vs Q E hr h => ?_
  · rcases h with ⟨_, ⟨_, rfl, _⟩ | ⟨rfl, _⟩⟩ <;> rfl
  · refine ⟨_, (pss_cons (ps_expr (pe_d d_need_text hr (by decide) rfl passE (pa_cons (pv 0) pa_nil)))
    (pss_cons (ps_par3 (i := 1) (j := 2) (l := 3) (by rfl) sc_read_yard.nd rfl rfl rfl (by decide) (by decide) (by decide) rfl rfl rfl (pa_cons (pe_d d_lines_in hr (by decide) rfl pass0 (pa_cons (pv 0) pa_nil)) (pa_cons (pe_op op_add (pe_callB (call_lenK K rfl) (by rfl) T.f_len (by decide +kernel) (pa_cons (pe_split (pv 0) pe_str) pa_nil)) pe_int) (pa_cons (pe_lst pa_nil) pa_nil))) (by rfl))
    (pss_cons (ps_set (i := 4) sc_read_yard.nd rfl (Or.inl rfl) (pe_d d_number_line hr (by decide) rfl passE (pa_cons (pv 1) (pa_cons (pv 2) (pa_cons pe_str (pa_cons (C8.pe_gc rfl T.c_LEAST_PLACES) (pa_cons (C8.pe_gc rfl T.c_MOST_PLACES) pa_nil)))))))
    (pss_cons (ps_while (passes_of rfl) (PW.pt (pw_and (pt_truthK K rfl (pv 1) (by intro _; rfl)) (pw_and1 (pt_cmpR op_eq (pe_ix (ix_seqK K rfl) (pe_ix (ix_seqK K rfl) (pe_ix (ix_seqK K rfl) (pv 1) pe_int (fun _ _ => rfl)) pe_int (fun _ _ => rfl)) pe_int (fun _ _ => rfl)) pe_str (nomark _)))))
      (pss_cons (ps_asg (pe_bm PySem.F.plainAttrs_list PySem.F.slot_list_pop PySem.F.type_list_pop mt_popAt (pv 1) (pa_cons pe_int pa_nil)) (pg_tupK K rfl (n := 2) (by rfl) (pgs_cons (pg_name (i := 5) sc_read_yard.nd rfl (Or.inl rfl)) (pgs_cons (pg_name (i := 6) sc_read_yard.nd rfl (Or.inl rfl)) pgs_nil))))
      (pss_cons (ps_set (i := 7) sc_read_yard.nd rfl (Or.inl rfl) (pe_d d_taken hr (by decide) rfl passE (pa_cons (pv 5) (pa_cons pe_int (pa_cons pe_int (pa_cons (pe_op op_sub (pv 4) pe_int) (pa_cons (pv 6) pa_nil)))))))
      (pss_cons (ps_if (PW.pt (pw_and (pt_truthK K rfl (pv 3) (by intro _; rfl)) (pw_and1 (pt_cmpR op_lt (pv 7) (pe_ix (ix_seqK K rfl) (pe_ix (ix_seqK K rfl) (pv 3) (pe_un un_neg pe_int) (fun _ _ => rfl)) pe_int (fun _ _ => rfl)) (nomark _)))))
        (pss_one (ps_bad T hr (by decide) rfl rfl (takes_of rfl rfl rfl rfl) (pa_cons (pv 6) (pa_cons pe_int pa_nil))))
        pss_nil)
      (pss_cons (ps_set (i := 8) sc_read_yard.nd rfl (Or.inl rfl) (pe_d d_taken hr (by decide) rfl passE (pa_cons (pv 5) (pa_cons pe_int (pa_cons (pe_op op_add (pv 7) pe_int) (pa_cons (pe_op op_sub (pv 4) pe_int) (pa_cons (pv 6) pa_nil)))))))
      (pss_cons (ps_if (PW.pt (pw_and (pt_truthK K rfl (pv 3) (by intro _; rfl)) (pw_and1 (pt_cmpR (op_leTK K rfl (Nat.lt_of_le_of_lt (Nat.le_add_right _ _) hr.units)) (pe_tup (pa_cons (pv 7) (pa_cons (pv 8) pa_nil))) (pe_ix (ix_seqK K rfl) (pv 3) (pe_un un_neg pe_int) (fun _ _ => rfl)) (nomark _)))))
        (pss_one (ps_bad T hr (by decide) rfl rfl (takes_of rfl rfl rfl rfl) (pa_cons (pv 6) (pa_cons pe_int pa_nil))))
        pss_nil)
      (pss_cons (ps_expr (pe_d d_need_end hr (by decide) rfl passE (pa_cons (pv 5) (pa_cons pe_int (pa_cons (pv 6) pa_nil)))))
      (pss_one (ps_expr (pe_bm PySem.F.plainAttrs_list PySem.F.slot_list_append PySem.F.type_list_append mt_append (pv 3) (pa_cons (pe_tup (pa_cons (pv 7) (pa_cons (pv 8) pa_nil))) pa_nil)))))))))))
    (pss_cons (ps_set (i := 9) sc_read_yard.nd rfl (Or.inl rfl) (pe_ifExp (pt_truthK K rfl (pv 1) (by intro _; rfl)) (pe_ix (ix_seqK K rfl) (pe_ix (ix_seqK K rfl) (pv 1) pe_int (fun _ _ => rfl)) pe_int (fun _ _ => rfl)) (pv 2)))
    (pss_cons (ps_if (pt_cmpR op_lt (pe_callB (call_lenK K rfl) (by rfl) T.f_len (by decide +kernel) (pa_cons (pe_d d_hanging hr (by decide) rfl pass0 (pa_cons (pv 4) (pa_cons (pe_callTy (call_tupK K rfl) (by rfl) T.f_tuple (by decide +kernel) (pa_cons (pv 3) pa_nil)) (pa_cons pe_int (pa_cons (pe_tup pa_nil) pa_nil))))) pa_nil)) (pv 4) (nomark _))
      (pss_one (ps_bad T hr (by decide) rfl rfl (takes_of rfl rfl rfl rfl) (pa_cons (pv 9) (pa_cons pe_int pa_nil))))
      pss_nil)
    (pss_cons (ps_set (i := 10) sc_read_yard.nd rfl (Or.inl rfl) (pe_d d_number_line hr (by decide) rfl passE (pa_cons (pv 1) (pa_cons (pv 2) (pa_cons pe_str (pa_cons pe_int (pa_cons (pe_op op_sub (pv 4) pe_int) pa_nil)))))))
    (pss_cons (ps_if (pt_truthK K rfl (pv 1) (by intro _; rfl))
      (pss_one (ps_bad T hr (by decide) rfl rfl (takes_of rfl rfl rfl rfl) (pa_cons (pe_ix (ix_seqK K rfl) (pe_ix (ix_seqK K rfl) (pv 1) pe_int (fun _ _ => rfl)) pe_int (fun _ _ => rfl)) (pa_cons pe_int pa_nil))))
      pss_nil)
    (pss_one (ps_ret (pe_tup (pa_cons (pv 4) (pa_cons (pe_callTy (call_tupK K rfl) (by rfl) T.f_tuple (by decide +kernel) (pa_cons (pv 3) pa_nil)) (pa_cons (pv 10) pa_nil)))))))))))))), ?_⟩
    rcases h with ⟨tb, ⟨t, rfl, hl, o⟩ | ⟨rfl, q⟩⟩
    case inr => exact ⟨_, rfl, Or.inr ⟨rfl, q⟩⟩
    refine ⟨_, rfl, Or.inl ⟨S t, rfl, ?_⟩⟩
    refine ⟨_, rfl, t, rfl, hl, fun H1 a xs s1 n1 h1 hx1 => ?_⟩
    have lok := lines_ok hl
    have llen : (linesL t).length ≤ 6000 := by
      have h1 := numbered_length_le (cutAt 10 t) 1
      have h2 := cutAt_length_le 10 t
      have h3 : (linesL t).length ≤ (cutAt 10 t).length := h1
      omega
    have hcl := cutAt_length_le 10 t
    refine ⟨_, rfl, ⟨_, rfl⟩, S t, _, rfl, rfl, by decide +kernel, by rw [S_len, sizeLine_eq]; omega, fun p np => ?_⟩
    rw [split_nl]
    refine ⟨.ref p, (cutAt 10 t).length, rfl, Or.inl ⟨_, SqL.of upd_same, by simp⟩, _, _, rfl, rfl, (show (0 : Nat) ≤ sizeLine by decide), fun b nb => ?_⟩
    have g1 : Go d.T H H1 := Go.same tb s1
    have ga := g1.then np (o := .lst (((cutAt 10 t).map S).map V.str))
    have gb := ga.then nb (o := .lst [])
    have hab : a ≠ b := ne_of_none (show (upd H1 p (.lst (((cutAt 10 t).map S).map V.str))) a = some (.lst xs) by rw [upd_ne (ne_of_none h1 np)]; exact h1) nb
    have hap : a ≠ p := ne_of_none h1 np
    have nbH : H b = none := ga.free nb
    have pb : ∀ {H' xs ls ys acc}, Rst K d.T a b H H' xs ls ys acc → Go d.T H H' := fun r => r.out n1 nbH
    refine ⟨_, _, _, rfl, ?_⟩
    have ha3 : (upd (upd H1 p (.lst (((cutAt 10 t).map S).map V.str))) b (.lst [])) a = some (.lst xs) := by
      rw [upd_ne hab, upd_ne hap]
      exact h1
    have hb3 : (upd (upd H1 p (.lst (((cutAt 10 t).map S).map V.str))) b (.lst [])) b = some (.lst []) := upd_same
    have gh : Go d.T (hid a H1) (hid a (upd (upd H1 p (.lst (((cutAt 10 t).map S).map V.str))) b (.lst []))) := go_hid ((Go.new g1.t1 np).then nb) (gb.t1.no ha3 fun _ z => by cases z)
    generalize upd (upd H1 p (.lst (((cutAt 10 t).map S).map V.str))) b (.lst []) = H3 at gb ha3 hb3 gh ⊢
    refine ⟨_, rfl, _, rfl, a, xs, linesL t, finL t, 2, 7, kPlaces, ?_, ha3, Lines.go gh hx1, lok, llen, by decide, gb.t1, ?_⟩
    · rw [w_places]
      rfl
    -- what a later raise needs
    have g3 : Go d.T H (hid b (hid a H3)) := by
      have z := go_hid (go_hid gb (gb.t0.nofree n1)) (gb.t0.nofree nbH)
      rwa [hid_none n1, hid_none nbH] at z
    cases en : numLineL (linesL t) (finL t) kPlaces 2 7 with
    | error e =>
      have er : readYardL t = .error e := by
        unfold readYardL yard1
        rw [en]
      rw [er] at o
      intro H4 dx g4 x4
      refine o H4 dx (go_un n1 (go_un nbH (g3.trans (go_hid g4 (gb.t0.nofree nbH))))) x4
    | ok nr =>
      obtain ⟨n, l1⟩ := nr
      intro H4 xs4 g4 ha4 hx4
      have gb4 := go_hid g4 (gb.t0.nofree nbH)
      have hb4 : H4 b = some (.lst []) := by
        have z : hid a H3 b = some (.lst []) := by rw [hid_ne (Ne.symm hab)]; exact hb3
        have z := g4.lst z
        rwa [hid_ne (Ne.symm hab)] at z
      have hn := numLine_some en
      obtain ⟨hn2, hn7, _⟩ := hn
      obtain ⟨l0, el⟩ := numLine_tail en
      have lok1 : LsOk l1 := fun l h => lok l (by rw [el]; exact List.mem_cons_of_mem _ h)
      have llen1 : l1.length ≤ 6000 := by
        rw [el, List.length_cons] at llen
        omega
      have r0 : Rst K d.T a b H H4 xs4 l1 [] [] := ⟨g3.trans gb4, ha4, hb4, Lines.hide (by rw [hid_ne (Ne.symm hab)]; exact hb4) (fun l h => (lok1 l h).1) hx4, .nil⟩
      refine while_it (fun m σ H' => ∃ ls acc xs ys v5 v6 v7 v8, σ = [some (.str (S t)), some (.ref a), some (.int (finL t)), some (.ref b), some (.int n), v5, v6, v7, v8, none, none] ∧ Rst K d.T a b H H' xs ls ys acc ∧ LsOk ls ∧ acc.length + ls.length ≤ 6000 ∧ tiesL n ls acc = tiesL n l1 [] ∧ m = ls.length)
        (fun σ H' => ∃ ls acc xs ys v5 v6 v7 v8, σ = [some (.str (S t)), some (.ref a), some (.int (finL t)), some (.ref b), some (.int n), v5, v6, v7, v8, none, none] ∧ Rst K d.T a b H H' xs ls ys acc ∧ LsOk ls ∧ acc.length + ls.length ≤ 6000 ∧ tiesL n l1 [] = .ok (acc, ls))
        ⟨_, l1, [], xs4, [], none, none, none, none, rfl, r0, lok1, by simpa using llen1, rfl, rfl⟩ (fun after m σ H5 hW => ?_) (fun σ H5 hE => ?_)
      · obtain ⟨ls, acc, xs, ys, v5, v6, v7, v8, rfl, r, lk, hlen, ht, rfl⟩ := hW
        have g5 := pb r
        refine ⟨_, rfl, !xs.isEmpty, Or.inl ⟨_, SqL.of r.la, rfl⟩, ?_⟩
        cases ls with
        | nil =>
          have : xs = [] := by
            have := r.xl
            cases this
            rfl
          subst this
          exact iteF (iteF (after _ _ ⟨[], acc, [], ys, v5, v6, v7, v8, rfl, r, lk, hlen, by rw [← ht]; rfl⟩))
        | cons l ls =>
          obtain ⟨v, xs', rfl⟩ : ∃ v xs', xs = v :: xs' := by
            have := r.xl
            cases this
            exact ⟨_, _, rfl⟩
          have hl := lk l (by simp)
          obtain ⟨ws, at_⟩ := l
          obtain ⟨w0, wr, rfl⟩ : ∃ w0 wr, ws = w0 :: wr := by
            cases ws with
            | nil => exact absurd rfl hl.1
            | cons a b => exact ⟨a, b, rfl⟩
          have hv : LineAt K H5 v (w0 :: wr, at_) := by
            have := r.lines
            cases this with
            | cons h _ => exact h
          obtain ⟨pl, wv, rfl, hp, qw, rfl, hw⟩ := hv
          refine iteT ⟨_, rfl, Or.inl ⟨a, _, 0, _, rfl, rfl, SqL.of r.la, at0, Or.inr (Or.inl ⟨pl, _, 0, _, rfl, rfl, hp, rfl, Or.inl ⟨qw, _, 0, _, rfl, rfl, hw, at0, ?_⟩⟩)⟩⟩
          refine ⟨rfl, w0 == kTie, ?_, ?_⟩
          · rw [w_tie]
            exact congrArg V.bl (S_dec _ _)
          by_cases ct : w0 = kTie
          · rw [show (w0 == kTie) = true by simpa using ct]
            have htt : tiesL n l1 [] = match tieL n (w0 :: wr) at_ acc with
              | .error e => .error e
              | .ok t => tiesL n ls (acc ++ [t]) := by
              rw [← ht, tiesL]
              rw [if_pos (by rw [ct]; rfl)]
              all_goals (cases tieL n (w0 :: wr) at_ acc <;> rfl)
            have bad : ∀ e, tieL n (w0 :: wr) at_ acc = .error e → Bad d H E e := fun e h => by
              have er : readYardL t = .error e := by
                unfold readYardL yard1
                rw [en]
                simp only
                rw [htt, h]
              rw [er] at o
              exact o
            have hpop : seqIndex? 0 (V.ref pl :: xs').length = some 0 := by
              unfold seqIndex?
              simp
            obtain ⟨r6, hv6⟩ := Rst.pop hab r
            obtain ⟨p6, w6, e6, hp6, hw6⟩ := hv6
            cases e6
            have g6 := pb r6
            refine iteT ⟨_, fun _ _ z => z, ?_⟩
            refine ⟨_, rfl, Or.inl ⟨rfl, _, SqL.of r.la⟩, a, _, 0, 0, _, rfl, rfl, r.la, by decide, by decide, hpop, rfl, ?_⟩
            refine ⟨pl, _, rfl, hp6, rfl, _, _, rfl, _, _, rfl, rfl, ?_⟩
            refine ⟨_, rfl, _, rfl, _, _, rfl, rfl, _, rfl, _, w0 :: wr, 1, 0, n - 2, at_, rfl, hw6, hl.2, by omega, g6.t1, ?_⟩
            unfold Out
            cases e1 : takenL (w0 :: wr) 1 0 (n - 2) at_ with
            | error e => exact fun H7 dx g x => bad e (by unfold tieL; rw [e1]) H7 dx (g6.trans g) x
            | ok one =>
              intro H7 g7
              have r7 := r6.move n1 nbH g7
              refine late_test (a := a) rfl rfl r7.lb r7.ties ?_
              by_cases c1 : lateA acc one = true
              · rw [c1]
                refine iteT ⟨_, rfl, at_, 2, rfl, fun H8 dx s8 n8 x8 => ?_⟩
                refine bad (at_, 2) ?_ H8 dx ((pb r7).trans (Go.same g7.t1 s8)) x8
                unfold tieL
                rw [e1]
                simp only
                rw [if_pos c1]
              · rw [show lateA acc one = false by simpa using c1]
                refine iteF ⟨_, rfl, _, rfl, _, _, rfl, rfl, _, rfl, _, _, rfl, rfl, _, rfl, _, w0 :: wr, 2, one + 1, n - 1, at_, rfl, hw6.go g7, hl.2, by omega, g7.t1, ?_⟩
                unfold Out
                cases e2 : takenL (w0 :: wr) 2 (one + 1) (n - 1) at_ with
                | error e =>
                  refine fun H8 dx g x => bad e ?_ H8 dx ((pb r7).trans g) x
                  unfold tieL
                  rw [e1]
                  simp only
                  rw [if_neg c1, e2]
                | ok other =>
                  intro H8 g8
                  have r8 := r7.move n1 nbH g8
                  refine late_test2 (one := one) (other := other) (b := b) (by rfl) (by rfl) (by rfl) g8.t1 r8.lb r8.ties fun H9 g9 => ?_
                  have r9 := r8.move n1 nbH g9
                  by_cases c2 : lateB acc (one, other) = true
                  · rw [c2]
                    refine iteT ⟨_, rfl, at_, 3, rfl, fun H10 dx s10 n10 x10 => ?_⟩
                    refine bad (at_, 3) ?_ H10 dx ((pb r9).trans (Go.same g9.t1 s10)) x10
                    unfold tieL
                    rw [e1]
                    simp only
                    rw [if_neg c1, e2]
                    simp only
                    rw [if_pos c2]
                  · rw [show lateB acc (one, other) = false by simpa using c2]
                    refine iteF ⟨_, rfl, _, rfl, _, w0 :: wr, 3, at_, rfl, ((hw6.go g7).go g8).go g9, g9.t1, ?_⟩
                    unfold Out
                    cases e3 : endL (w0 :: wr) 3 at_ with
                    | error e =>
                      refine fun H10 dx g x => bad e ?_ H10 dx ((pb r9).trans g) x
                      unfold tieL
                      rw [e1]
                      simp only
                      rw [if_neg c1, e2]
                      simp only
                      rw [if_neg c2, e3]
                    | ok u =>
                      have eok : tieL n (w0 :: wr) at_ acc = .ok (one, other) := by
                        unfold tieL
                        rw [e1]
                        simp only
                        rw [if_neg c1, e2]
                        simp only
                        rw [if_neg c2, e3]
                      refine ⟨_, rfl, Or.inl ⟨rfl, _, SqL.of r9.lb⟩, _, rfl, _, rfl, (show (2 : Nat) ≤ sizeLine by decide), fun p10 n10 => ?_⟩
                      have r10 := r9.move n1 nbH (Go.new (o := .tup [.int one, .int other]) g9.t1 n10)
                      have hyl : ys.length ≤ 6000 := by
                        have := r9.yt.length
                        rw [List.length_map] at this
                        omega
                      refine ⟨b, _, _, rfl, rfl, r10.lb, by rw [sizeLine_eq]; omega, ?_⟩
                      refine ⟨ls.length, by simp, ls, acc ++ [(one, other)], xs', ys ++ [.ref p10], _, _, _, _, rfl, Rst.app (t := (one, other)) hab r10 upd_same, fun l h => lk l (List.mem_cons_of_mem _ h), ?_, ?_, rfl⟩
                      · rw [List.length_append]
                        rw [List.length_cons] at hlen
                        simp only [List.length_cons, List.length_nil]
                        omega
                      · rw [htt, eok]
          · rw [show (w0 == kTie) = false by simpa using ct]
            refine iteF (after _ _ ⟨_, acc, _, ys, v5, v6, v7, v8, rfl, r, lk, hlen, ?_⟩)
            rw [← ht]
            unfold tiesL
            rw [if_neg (by simpa using ct)]
      · obtain ⟨ls, acc, xs, ys, v5, v6, v7, v8, rfl, r, lk, hlen, ht⟩ := hE
        obtain ⟨hasc, hok, _⟩ := ties_some .nil (fun _ h => by simp at h) ht
        have few := ties_few hn7 hasc hok
        have er : readYardL t = yard2 (connB n acc) (finL t) n acc ls := by
          unfold readYardL yard1
          rw [en]
          simp only
          rw [ht]
        rw [er] at o
        refine begin_ (a := a) rfl rfl r.la r.lines ?_
        refine ⟨_, rfl, _, rfl, b, ys, rfl, Or.inl ⟨SqL.of r.lb, fun p6 n6 => ?_⟩⟩
        have r6 := r.move n1 nbH (Go.new (o := .tup ys) (pb r).t1 n6)
        refine ⟨(show (0 : Nat) ≤ sizeLine by decide), fun p7 n7 => ?_⟩
        have g7 := Go.new (o := .tup []) (pb r6).t1 n7
        have r7 := r6.move n1 nbH g7
        refine ⟨n, 0, .ref p6, .ref p7, acc, rfl, .tup (g7.st (.inl (.inl upd_same))) (dp_ties r7.ties), few, .tup (.inl (.inl upd_same)) .nil, fun H8 a8 L s8 n8 hL nd mem => ?_⟩
        have r8 := r7.move n1 nbH (Go.same (pb r7).t1 s8)
        have ci := conn_iff (n := n) nd mem
        refine ⟨.ref a8, L.length, rfl, Or.inl ⟨_, SqL.of hL, by simp⟩, _, rfl, _, _, rfl, rfl, decide ((L.length : Int) < n), rfl, ?_⟩
        by_cases hc : (L.length : Int) < n
        · rw [decide_eq_true hc]
          have cf : connB n acc = false := by
            cases h : connB n acc with
            | false => rfl
            | true =>
              have := ci.mp (connB_iff.mp h)
              omega
          rw [cf] at o
          unfold yard2 at o
          rw [if_pos rfl] at o
          refine iteT ⟨_, rfl, _, 1, rfl, fun H9 dx s9 n9 x9 => ?_⟩
          exact o H9 dx ((pb r8).trans (Go.same (pb r8).t1 s9)) x9
        · rw [decide_eq_false hc]
          have cf : connB n acc = true := connB_iff.mpr (ci.mpr (by omega))
          rw [cf] at o
          unfold yard2 at o
          rw [if_neg (by decide)] at o
          refine iteF ⟨_, rfl, _, rfl, _, rfl, _, _, rfl, rfl, a, xs, ls, finL t, 0, n - 1, kGate, ?_, r8.la, Lines.go (go_unhid (t00 _) (by simp)) r8.xl, lk, by omega, by decide, (pb r8).t1, ?_⟩
          · rw [w_gate]
            rfl
          cases eg : numLineL ls (finL t) kGate 0 (n - 1) with
          | error e =>
            rw [eg] at o
            exact fun H9 dx g9 x9 => o H9 dx (go_un n1 (go_un nbH (r8.go.trans (go_hid g9 (gb.t0.nofree nbH))))) x9
          | ok gl =>
            obtain ⟨g, l3⟩ := gl
            rw [eg] at o
            intro H9 xs9 g9 ha9 hx9
            have gT := go_hid g9 (gb.t0.nofree nbH)
            have g9' : Go d.T H H9 := go_un n1 (go_un nbH (r8.go.trans gT))
            have hb9 : H9 b = some (.lst ys) := by
              have z : hid a H8 b = some (.lst ys) := by rw [hid_ne (Ne.symm hab)]; exact r8.lb
              have z := g9.lst z
              rwa [hid_ne (Ne.symm hab)] at z
            have yt9 : IntTups K H9 ys (acc.map fun t => [t.1, t.2]) := IntTups.go un0 (r8.yt.go gT)
            refine ⟨_, rfl, !xs9.isEmpty, Or.inl ⟨_, SqL.of ha9, rfl⟩, ?_⟩
            have hx9' : Paired (LineAt K H9) xs9 l3 := Lines.go (go_unhid (t00 _) (by simp)) hx9
            cases hx9' with
            | nil =>
              refine iteF ⟨_, rfl, _, rfl, b, ys, rfl, Or.inl ⟨SqL.of hb9, fun p10 n10 => ⟨_, rfl, (show (3 : Nat) ≤ sizeLine by decide), fun p11 n11 => ?_⟩⟩⟩
              have ga := Go.new (o := .tup ys) g9'.t1 n10
              have gb' := ga.then n11 (o := .tup [.int n, .ref p10, .int g])
              refine o _ _ (g9'.trans gb') (.tup (.inl (.inl upd_same)) (.cons (.int _) (.cons (.tup (.inl (.inl ?_)) (dp_ties (yt9.go gb'))) (.cons (.int _) .nil))))
              rw [upd_ne (ne_of_none upd_same n11)]
              exact upd_same
            | @cons v l xs9 l3 hv tl =>
              obtain ⟨ws, at_⟩ := l
              obtain ⟨pl, wv, rfl, hp, _⟩ := hv
              refine iteT ⟨_, rfl, Or.inl ⟨a, _, 0, _, rfl, rfl, SqL.of ha9, at0, Or.inr (Or.inl ⟨pl, _, 1, _, rfl, rfl, hp, rfl, at_, 1, rfl, fun H10 dx s10 n10 x10 => ?_⟩)⟩⟩
              exact o H10 dx (g9'.trans (Go.same g9'.t1 s10)) x10
end
end HK
set_option Elab.async false
set_option linter.all false
set_option maxRecDepth 100000
set_option maxHeartbeats 1000000
namespace HK
open PySem PySem.Spec PyProof.Rows L2 SX
/-! ### numbers and rows as texts -/
theorem int_toS (i : Int) : Str.ofString (toString i) = S (intL i) := by
  cases i with
  | ofNat n =>
    rw [show (Int.ofNat n) = ((n : Nat) : Int) from rfl, num_S]
    unfold intL
    rw [if_neg (by omega)]
    rfl
  | negSucc n =>
    have e : intL (Int.negSucc n) = 45 :: TL.numL (n + 1) := by
      unfold intL
      rw [if_pos (by omega)]
      rfl
    rw [e]
    refine TL.ext_tl ?_
    show (Str.ofString (toString (Int.negSucc n))).cps.toList = 45 :: TL.numL (n + 1)
    have h1 : (Str.ofString (toString ((n + 1 : Nat) : Int))).cps.toList = TL.numL (n + 1) := TL.tl_num (n + 1)
    rw [PyProof.Rows.signs_ofString] at h1 ⊢
    have h2 : (toString (Int.negSucc n)) = "-" ++ toString ((n + 1 : Nat) : Int) := rfl
    rw [h2, String.toList_append, List.map_append, h1]
    rfl
theorem rowL2 (a b : List Nat) : rowL [a, b] = a ++ 32 :: b := by simp [rowL, TL.joinL]
theorem rowL3 (a b c : List Nat) : rowL [a, b, c] = a ++ 32 :: (b ++ 32 :: c) := by simp [rowL, TL.joinL]
theorem t_places (n : Int) : ("places " : Str) ++ Str.ofString (toString n) = S (rowL [kPlaces, intL n]) := by
  rw [int_toS, show ("places " : Str) = S (kPlaces ++ [32]) by decide +kernel, S_cat, rowL2]
  simp
theorem t_gate (n : Int) : ("gate " : Str) ++ Str.ofString (toString n) = S (rowL [kGate, intL n]) := by
  rw [int_toS, show ("gate " : Str) = S (kGate ++ [32]) by decide +kernel, S_cat, rowL2]
  simp
theorem t_tie (a b : Int) : ((("tie " : Str) ++ Str.ofString (toString a)) ++ (" " : Str)) ++ Str.ofString (toString b) = S (rowL (tieRow (a, b))) := by
  rw [int_toS, int_toS, show ("tie " : Str) = S (kTie ++ [32]) by decide +kernel, lit_sp, S_cat, S_cat, S_cat]
  unfold tieRow
  rw [rowL3]
  simp
theorem int_len {n : Int} (h : n.natAbs < 100000000) : (Str.ofString (toString n)).length ≤ 9 := by
  rw [int_toS, S_len]
  exact intL_len h
theorem int_log {n : Int} (h : n.natAbs < 100000000) : n.natAbs.log2 < 1920 := by
  have : n.natAbs.log2 ≤ 27 := by
    by_cases h0 : n.natAbs = 0
    · rw [h0]
      decide
    · have := (Nat.log2_lt h0 (k := 28)).mpr (by omega)
      omega
  omega
theorem sum_le {m : Nat} : ∀ {ys : List Str}, (∀ y ∈ ys, y.length ≤ m) → (ys.map (·.length)).sum ≤ m * ys.length
  | [], _ => by simp
  | y :: ys, h => by
    have h1 := h y (by simp)
    have h2 := sum_le (ys := ys) fun z hz => h z (List.mem_cons_of_mem _ hz)
    rw [List.map_cons, List.sum_cons, List.length_cons, Nat.mul_succ]
    omega
theorem map_filterMap_some {α β : Type} (f : α → β) (l : List α) : l.filterMap (fun a => some (f a)) = l.map f := by
  induction l with
  | nil => rfl
  | cons a l ih => simp
def yardText (y : Yd) : List Nat := textL (yardRows y)
theorem vy_few {y : Yd} (v : VY y) : y.ties.length < 30 := ties_few v.hi v.asc v.tie
theorem tieRow_len {n : Int} {t : Int × Int} (h : TieOk n t) (hn : n ≤ 7) : (rowL (tieRow t)).length ≤ 30 := by
  unfold TieOk at h
  unfold tieRow
  rw [rowL3]
  have h1 := intL_len (n := t.1) (by omega)
  have h2 := intL_len (n := t.2) (by omega)
  simp
  omega
theorem yardRows_len {y : Yd} (v : VY y) {r : List (List Nat)} (h : r ∈ yardRows y) : (rowL r).length ≤ 30 := by
  have h1 := v.lo
  have h2 := v.hi
  have h3 := v.g0
  have h4 := v.g1
  unfold yardRows at h
  simp only [List.mem_cons, List.mem_append, List.mem_map, List.not_mem_nil, or_false] at h
  rcases h with rfl | ⟨t, ht, rfl⟩ | rfl
  · rw [rowL2]
    have := intL_len (n := y.n) (by omega)
    simp
    omega
  · exact tieRow_len (v.tie t ht) v.hi
  · rw [rowL2]
    have := intL_len (n := y.gate) (by omega)
    simp
    omega
theorem yardRows_count (y : Yd) : (yardRows y).length = y.ties.length + 2 := by
  simp [yardRows]
theorem yes_ {σ : L2.St} {H : Hp} {F G : Hp → Prop} (h : F H) : tYes σ H fun b H3 => if b = true then F H3 else G H3 := by
  show (if true = true then F H else G H)
  rw [if_pos rfl]
  exact h
/-- the lines of rows joined -/
theorem join_rows {K : PySem.W.Frag} {H : Hp} {p : Addr} {rows : List (List (List Nat))} {Q : VK} (h : SqL K H p ((rows.map rowL).map wV)) (hl : ∀ r ∈ rows, (rowL r).length ≤ 100) (hn : rows.length ≤ 6000) (q : Q (.str (S (textL rows))) H) : rJoin K (.str ("\n" : Str)) [.ref p] H Q := by
  refine ⟨_, p, (rows.map rowL).map S, rfl, rfl, .inl ?_, ?_, ?_⟩
  · have e : ((rows.map rowL).map S).map V.str = (rows.map rowL).map wV := by
      rw [List.map_map]
      rfl
    rw [e]
    exact h
  · have h1 := sum_le (m := 100) (ys := (rows.map rowL).map S) (fun y hy => by
      obtain ⟨l, hl', rfl⟩ := List.mem_map.mp hy
      obtain ⟨r, hr, rfl⟩ := List.mem_map.mp hl'
      rw [S_len]
      exact hl r hr)
    have h2 : ("\n" : Str).length = 1 := by decide +kernel
    rw [h2]
    rw [List.length_map, List.length_map] at h1 ⊢
    omega
  · rw [lit_nl, join_S]
    exact q
section
variable {P : Program} {w : World} {K : PySem.W.Frag} {mg : Str → Option Value} {base : Heap} {d : Ad}
/-- the tie rows, element by element -/
theorem tie_elt {σ : L2.St} {H : Hp} {i j : Nat} {a b : Int} {Q : VK} (hi : σ[i]? = some (some (.int a))) (hj : σ[j]? = some (some (.int b))) (ha : a.natAbs < 100000000) (hb : b.natAbs < 100000000) (q : Q (wV (rowL (tieRow (a, b)))) H) :
    tOp (fun x y H Q => ∃ i j, x = .str i ∧ y = .str j ∧ i.length + j.length ≤ sizeLine ∧ Q (.str (i ++ j)) H) (tOp (fun x y H Q => ∃ i j, x = .str i ∧ y = .str j ∧ i.length + j.length ≤ sizeLine ∧ Q (.str (i ++ j)) H) (tOp (fun x y H Q => ∃ i j, x = .str i ∧ y = .str j ∧ i.length + j.length ≤ sizeLine ∧ Q (.str (i ++ j)) H) (tC (.str "tie "))
      (tCB (fun xs H Q => ∃ i, xs = [.int i] ∧ i.natAbs.log2 < 1920 ∧ Q (.str (toString i)) H) (tCons (tVar i) tNil))) (tC (.str " "))) (tCB (fun xs H Q => ∃ i, xs = [.int i] ∧ i.natAbs.log2 < 1920 ∧ Q (.str (toString i)) H) (tCons (tVar j) tNil)) σ H Q := by
  have l1 := int_len ha
  have l2 := int_len hb
  have k1 : ("tie " : Str).length = 4 := by decide +kernel
  have k2 : (" " : Str).length = 1 := by decide +kernel
  have e1 : (("tie " : Str) ++ Str.ofString (toString a)).length = 4 + (Str.ofString (toString a)).length := by
    rw [TL.len_tl, TL.tl_append, List.length_append, ← TL.len_tl, ← TL.len_tl, k1]
  have e2 : ((("tie " : Str) ++ Str.ofString (toString a)) ++ (" " : Str)).length = 5 + (Str.ofString (toString a)).length := by
    rw [TL.len_tl, TL.tl_append, List.length_append, ← TL.len_tl, ← TL.len_tl, k2, e1]
    omega
  have hz := sizeLine_eq
  refine ⟨_, hi, a, rfl, int_log ha, _, _, rfl, rfl, ?_, _, _, rfl, rfl, ?_, _, hj, b, rfl, int_log hb, _, _, rfl, rfl, ?_, ?_⟩
  · rw [k1]
    omega
  · rw [e1, k2]
    omega
  · rw [e2]
    omega
  · rw [t_tie]
    exact q
/-- a yard that the program would take, as a text -/
def spWriteYard (K : PySem.W.Frag) (d : Ad) : Sp := fun vs H Q _ => ∃ (v : V) (y : Yd), vs = [v] ∧ Dp K H v (yardD y) ∧ VY y ∧ Tb d.T H ∧ ∀ H', Go d.T H H' → Q (.str (S (yardText y))) H'
theorem dk_write_yard (T : Tx K mg d) (B : Tbs base mg d) : DK P w K mg base CX0 8 "write_yard" (spWriteYard K d) := by
  have d_need_yard : DK P w K mg base CX0 7 "need_yard" (spNeedYard K d) := dk_need_yard T B
  refine T.d_write_yard.dk0 sc_write_yard (fun vs H Q E h => ?_) fun f cdv A outer s H vs Q E hr h => ?_
  · obtain ⟨_, _, rfl, _⟩ := h
    rfl
  · obtain ⟨v, y, rfl, hv, vy, tb, q⟩ := h
    obtain ⟨a, v2, rfl, ha, h2⟩ := Dp.yard_inv hv
    have few := vy_few vy
    have hn1 := vy.lo
    have hn2 := vy.hi
    have hg1 := vy.g0
    have hg2 := vy.g1
    have kp : ("places " : Str).length = 7 := by decide +kernel
    have kg : ("gate " : Str).length = 5 := by decide +kernel
    have hz := sizeLine_eq
    refine ⟨_, (pss_cons (ps_expr (pe_d d_need_yard hr (by decide) rfl pass0 (pa_cons (pv 0) pa_nil)))
    (pss_cons (ps_set (i := 1) sc_write_yard.nd rfl (Or.inl rfl) (pe_op op_cat (pe_lst (pa_cons (pe_op op_add_str pe_str (pe_callTy call_str_int (by rfl) T.f_str (by decide +kernel) (pa_cons (pe_ix (ix_seqK K rfl) (pv 0) pe_int (fun _ _ => rfl)) pa_nil))) pa_nil)) (by exact (pe_lc (own := [("one", 2), ("other", 3)]) (by rfl) sc_write_yard.nd (pi_tupK K rfl (pe_ix (ix_seqK K rfl) (pv 0) pe_int (fun _ _ => rfl))) (blkOk_by (own := [("one", 2), ("other", 3)]) (N := n_write_yard) (sc := defScope s_write_yard) (by decide +kernel)) (fun _ _ _ _ _ => by exact (pg_tupK K rfl (n := 2) (by rfl) (pgs_cons (pg_name (i := 2) sc_write_yard.nd rfl (Or.inl rfl)) (pgs_cons (pg_name (i := 3) sc_write_yard.nd rfl (Or.inl rfl)) pgs_nil)))) (fun _ _ _ _ _ => by exact pts_nil) (fun _ _ _ _ _ => by exact (pe_op op_add_str (pe_op op_add_str (pe_op op_add_str pe_str (pe_callTy call_str_int (by rfl) T.f_str (by decide +kernel) (pa_cons (pv 2) pa_nil))) pe_str) (pe_callTy call_str_int (by rfl) T.f_str (by decide +kernel) (pa_cons (pv 3) pa_nil))))))))
    (pss_one (ps_ret (pe_joinK K rfl pe_str (pe_op op_cat (pv 1) (pe_lst (pa_cons (pe_op op_add_str pe_str (pe_callTy call_str_int (by rfl) T.f_str (by decide +kernel) (pa_cons (pe_ix (ix_seqK K rfl) (pv 0) pe_int (fun _ _ => rfl)) pa_nil))) pa_nil)))))))), ?_⟩
    refine ⟨_, rfl, _, y, rfl, hv, vy, few, tb, fun H1 g1 => ?_⟩
    have ha1 := g1.st ha
    have h21 := Dp.go g1 h2
    obtain ⟨a2, xs, rfl, hxs, hall⟩ := Dp.tup_inv h21
    have xlen : xs.length = y.ties.length := by
      have := DpAll.len hall
      simpa using this
    have hl1 := int_len (n := y.n) (by omega)
    have hl2 := int_len (n := y.gate) (by omega)
    refine ⟨_, rfl, Or.inr (Or.inl ⟨a, _, 0, _, rfl, rfl, ha1, rfl, y.n, rfl, int_log (by omega), _, _, rfl, rfl, by rw [kp]; omega, (show (1 : Nat) ≤ sizeLine by decide), fun p1 n1 => ?_⟩)⟩
    have g2 := g1.then n1 (o := .lst [.str (("places " : Str) ++ Str.ofString (toString y.n))])
    have g12 := Go.new (o := .lst [.str (("places " : Str) ++ Str.ofString (toString y.n))]) g1.t1 n1
    refine ⟨_, rfl, Or.inr (Or.inl ⟨a, _, 1, _, rfl, rfl, g12.st ha1, rfl, a2, rfl, ⟨_, g12.st hxs⟩, fun D nD => ?_⟩)⟩
    refine lc_val (walk_tup (xs := xs)) g2.t1 nD (fun H' g => g.st (g12.st hxs)) yat_same (by omega) (fun i => (y.ties[i]?).bind fun t => some (wV (rowL (tieRow t)))) (fun i x H' H'' Post hi go hy gy hp => ?_) (fun H3 g3 e3 => ?_)
    · obtain ⟨rfl, hx⟩ := hy
      obtain ⟨dd, e1, e2⟩ := DpAll.get' hall hx
      rw [List.getElem?_map] at e1
      cases et : y.ties[i]? with
      | none => rw [et] at e1; cases e1
      | some t =>
        rw [et] at e1
        have e3 : dd = tieD t := (Option.some.inj e1).symm
        subst e3
        obtain ⟨b, rfl, hb⟩ := Dp.pair_inv e2
        have hb3 := (g12.trans go).st hb
        have hp' := hp H'' (Go.refl go.t1)
        rw [et] at hp'
        have tok := vy.tie t (List.mem_of_getElem? et)
        unfold TieOk at tok
        refine ⟨b, _, rfl, hb3, rfl, _, _, rfl, _, _, rfl, rfl, rfl, ?_⟩
        refine yes_ ?_
        refine tie_elt (i := 2) (j := 3) (a := t.1) (b := t.2) rfl rfl (by omega) (by omega) ?_
        exact hp'
    · rw [xlen, range_get, map_filterMap_some] at e3
      have g23 := g12.trans g3
      refine ⟨p1, D, _, _, rfl, rfl, g3.lst upd_same, e3, by rw [List.length_map]; simp; omega, fun p4 n4 => ?_⟩
      have g4 := (g2.trans g3).then n4 (o := .lst ([.str (("places " : Str) ++ Str.ofString (toString y.n))] ++ y.ties.map fun t => wV (rowL (tieRow t))))
      refine ⟨⟨_, rfl⟩, _, rfl, _, rfl, Or.inr (Or.inl ⟨a, _, 2, _, rfl, rfl, (g23.then n4).st ha1, rfl, y.gate, rfl, int_log (by omega), _, _, rfl, rfl, by rw [kg]; omega, (show (1 : Nat) ≤ sizeLine by decide), fun p5 n5 => ?_⟩)⟩
      have h45 : p4 ≠ p5 := ne_of_none upd_same n5
      refine ⟨p4, p5, _, _, rfl, rfl, by rw [upd_ne h45]; exact upd_same, upd_same, by simp; omega, fun p6 n6 => ?_⟩
      have g6 := fun o => (g4.then n5 (o := .lst [.str (("gate " : Str) ++ Str.ofString (toString y.gate))])).then n6 (o := o)
      refine join_rows (rows := yardRows y) (SqL.of ?_) (fun r hr => by have := yardRows_len vy hr; omega) (by rw [yardRows_count]; omega) (q _ (g6 _))
      rw [upd_same]
      congr 2
      rw [t_places, t_gate]
      unfold yardRows wV
      simp [List.map_append, Function.comp_def, wV]
end
end HK
set_option Elab.async false
set_option linter.all false
set_option maxRecDepth 100000
set_option maxHeartbeats 1000000
namespace HK
open PySem PySem.Spec PyProof.Rows L2 SX
theorem join_words {K : PySem.W.Frag} {H : Hp} {p : Addr} {ws : List (List Nat)} {Q : VK} (h : SqL K H p (ws.map wV)) (hl : ∀ r ∈ ws, r.length ≤ 100) (hn : ws.length ≤ 6000) (q : Q (.str (S (rowL ws))) H) : rJoin K (.str (" " : Str)) [.ref p] H Q := by
  refine ⟨_, p, ws.map S, rfl, rfl, .inl ?_, ?_, ?_⟩
  · have e : (ws.map S).map V.str = ws.map wV := by
      rw [List.map_map]
      rfl
    rw [e]
    exact h
  · have h1 := sum_le (m := 100) (ys := ws.map S) (fun y hy => by
      obtain ⟨l, hl', rfl⟩ := List.mem_map.mp hy
      rw [S_len]
      exact hl l hl')
    have h2 : (" " : Str).length = 1 := by decide +kernel
    rw [h2]
    rw [List.length_map] at h1 ⊢
    omega
  · rw [lit_sp, join_S]
    exact q
/-- a book as a word -/
theorem book_elt {σ : L2.St} {H : Hp} {i : Nat} {o : Option Int} {Q : VK} (hi : σ[i]? = some (some (bookV o))) (ho : ∀ b, o = some b → b.natAbs < 100000000) (q : Q (wV (standW o)) H) :
    tIf (tTest (tOp (fun x y H Q => y = .non ∧ Q (.bl (decide (x = .non))) H) (tVar i) (tC .non))) (tC (.str "-")) (tCB (fun xs H Q => ∃ i, xs = [.int i] ∧ i.natAbs.log2 < 1920 ∧ Q (.str (toString i)) H) (tCons (tVar i) tNil)) σ H Q := by
  cases o with
  | none =>
    refine ⟨_, hi, rfl, true, rfl, iteT ?_⟩
    show Q (.str "-") H
    rw [w_dash]
    exact q
  | some b =>
    refine ⟨_, hi, rfl, false, rfl, iteF ⟨_, hi, b, rfl, int_log (ho b rfl), ?_⟩⟩
    show Q (.str (Str.ofString (toString b))) H
    rw [int_toS]
    exact q
theorem standW_len {o : Option Int} (ho : ∀ b, o = some b → b.natAbs < 100000000) : (standW o).length ≤ 9 := by
  cases o with
  | none => decide
  | some b => exact intL_len (ho b rfl)
theorem vs_abs {n : Int} {st : List (Option Int)} (V0 : VS n st) {b : Int} (h : some b ∈ st) : b.natAbs < 100000000 := by
  have h1 := V0.lt b (mem_books.mpr h)
  have h2 := books_lt V0.hole
  have h3 := V0.len
  have h4 := V0.n7
  omega
def standText (st : List (Option Int)) : List Nat := rowL (st.map standW)
section
variable {P : Program} {w : World} {K : PySem.W.Frag} {mg : Str → Option Value} {base : Heap} {d : Ad}
def spStandText (K : PySem.W.Frag) : Sp := fun vs H Q _ => ∃ (v : V) (st : List (Option Int)), vs = [v] ∧ Dp K H v (standD st) ∧ st.length ≤ 7 ∧ (∀ b, some b ∈ st → b.natAbs < 100000000) ∧ ∀ H', Same H H' → Q (.str (S (standText st))) H'
theorem dk_standing_text (T : Tx K mg d) : DK P w K mg base CX0 1 "standing_text" (spStandText K) := by
  refine T.d_standing_text.dk0 sc_standing_text (fun vs H Q E h => ?_) fun f cdv A outer s H vs Q E hr h => ?_
  · obtain ⟨_, _, rfl, _⟩ := h
    rfl
  · obtain ⟨v, st, rfl, hv, hlen, hb, q⟩ := h
    obtain ⟨a, xs, rfl, ha, hall⟩ := Dp.tup_inv hv
    have ex := stand_inv hall
    subst ex
    refine ⟨_, (pss_one (ps_ret (pe_joinK K rfl pe_str (by exact (pe_lc (own := [("book", 1)]) (by rfl) sc_standing_text.nd (pi_tupK K rfl (pv 0)) (blkOk_by (own := [("book", 1)]) (N := n_standing_text) (sc := defScope s_standing_text) (by decide +kernel)) (fun _ _ _ _ _ => by exact (pg_name (i := 1) sc_standing_text.nd rfl (Or.inl rfl))) (fun _ _ _ _ _ => by exact pts_nil) (fun _ _ _ _ _ => by exact (pe_ifExp (pt_cmpR op_isN (pv 1) pe_non (nomark _)) pe_str (pe_callTy call_str_int (by rfl) T.f_str (by decide +kernel) (pa_cons (pv 1) pa_nil))))))))), ?_⟩
    refine ⟨⟨_, rfl⟩, _, rfl, a, rfl, ⟨_, ha⟩, fun D nD => ?_⟩
    refine lc_val walk_tup (t00 _) nD (fun H' g => g.st ha) yat_same (by simp; omega) (fun i => (st[i]?).bind fun o => some (wV (standW o))) (fun i x H' H'' Post hi go hy gy hp => ?_) (fun H3 g3 e3 => ?_)
    · obtain ⟨rfl, hx⟩ := hy
      rw [List.getElem?_map] at hx
      cases e : st[i]? with
      | none => rw [e] at hx; cases hx
      | some o =>
        rw [e] at hx
        have ex : x = bookV o := (Option.some.inj hx).symm
        subst ex
        have hp' := hp H'' (Go.refl go.t1)
        rw [e] at hp'
        refine ⟨rfl, ?_⟩
        refine yes_ ?_
        refine book_elt (i := 1) (o := o) rfl (fun b hb' => hb b (by rw [← hb']; exact List.mem_of_getElem? e)) ?_
        exact hp'
    · rw [List.length_map, range_get, map_filterMap_some] at e3
      refine join_words (ws := st.map standW) (SqL.of ?_) (fun r hr => ?_) (by rw [List.length_map]; omega) (q _ (same_go g3))
      · rw [e3, List.map_map]
        rfl
      · obtain ⟨o, ho, rfl⟩ := List.mem_map.mp hr
        have := standW_len (o := o) fun b hb' => hb b (by rw [← hb']; exact ho)
        omega
def spWriteStand (K : PySem.W.Frag) (d : Ad) : Sp := fun vs H Q _ => ∃ (u v : V) (y : Yd) (st : List (Option Int)), vs = [u, v] ∧ Dp K H u (yardD y) ∧ VY y ∧ Dp K H v (standD st) ∧ VS y.n st ∧ Tb d.T H ∧ ∀ H', Go d.T H H' → Q (.str (S (standText st))) H'
theorem dk_write_standing (T : Tx K mg d) (B : Tbs base mg d) : DK P w K mg base CX0 8 "write_standing" (spWriteStand K d) := by
  have d_need_yard : DK P w K mg base CX0 7 "need_yard" (spNeedYard K d) := dk_need_yard T B
  have d_need_standing : DK P w K mg base CX0 6 "need_standing" (spNeedStanding K d) := dk_need_standing T B
  have d_standing_text : DK P w K mg base CX0 1 "standing_text" (spStandText K) := dk_standing_text T
  refine T.d_write_standing.dk0 sc_write_standing (fun vs H Q E h => ?_) fun f cdv A outer s H vs Q E hr h => ?_
  · obtain ⟨_, _, _, _, rfl, _⟩ := h
    rfl
  · obtain ⟨u, v, y, st, rfl, hu, vy, hv, V0, tb, q⟩ := h
    refine ⟨_, (pss_cons (ps_expr (pe_d d_need_yard hr (by decide) rfl pass0 (pa_cons (pv 0) pa_nil)))
    (pss_cons (ps_expr (pe_d d_need_standing hr (by decide) rfl pass0 (pa_cons (pv 0) (pa_cons (pv 1) pa_nil))))
    (pss_one (ps_ret (pe_d d_standing_text hr (by decide) rfl pass0 (pa_cons (pv 1) pa_nil)))))), ?_⟩
    refine ⟨_, rfl, _, y, rfl, hu, vy, vy_few vy, tb, fun H1 g1 => ?_⟩
    refine ⟨_, rfl, _, rfl, _, _, y, st, rfl, Dp.go g1 hu, Dp.go g1 hv, V0, g1.t1, fun H2 g2 => ?_⟩
    refine ⟨_, rfl, _, st, rfl, Dp.go (g1.trans g2) hv, by have h1 := V0.len; have h2 := V0.n7; omega, fun b hb => vs_abs V0 hb, fun H3 s3 => ?_⟩
    exact q H3 ((g1.trans g2).trans (Go.same g2.t1 s3))
end
end HK
set_option Elab.async false
set_option linter.all false
set_option maxRecDepth 100000
set_option maxHeartbeats 1000000
namespace HK
open PySem PySem.Spec PyProof.Rows L2 SX
def rStrA : List V → Hp → VK → Prop := fun xs H Q => (∃ i, xs = [.int i] ∧ i.natAbs.log2 < 1920 ∧ Q (.str (toString i)) H) ∨ ∃ a, xs = [.str a] ∧ Q (.str a) H
theorem call_strA {X : Cx} : CallR X (.type "str") rStrA := by
  intro pins s σ H xs us Q I r h
  rcases h with h | h
  · exact call_str_int pins s σ H xs us Q I r h
  · exact SkE.call_str_str pins s σ H xs us Q I r h
theorem blkOk_nf {N : List Str} {sc sc0 scope : Scope} {own : List (Str × Nat)} (h : blkC N sc0 scope own = true) (hf : scope.names.all (fun y => decide (y.2 ≠ .free)) = true) : BlkOk N sc scope own := by
  have b := blkOk_by h
  refine ⟨b.kind, b.uniq, b.ix, fun y hy e => ?_, b.own⟩
  have := List.all_eq_true.mp hf y hy
  rw [e] at this
  simp at this
def partV : Nat → Ins → Option V := fun j i => ((V.str (S i.1) :: i.2.map V.int)[j]?)
def progText (p : List Ins) : List Nat := textL (p.map insRow)
theorem vi_abs {b m : Int} {i : Ins} (hb : b ≤ 6) (hm : m ≤ 6000) (h : VI b m i) : ∀ k ∈ i.2, k.natAbs < 100000000 := by
  intro k hk
  rcases h with ⟨_, h⟩ | ⟨_, x, y, h, h1, h2, h3, h4⟩ | ⟨_, x, h, h1, h2⟩ | ⟨_, x, h, h1, h2⟩ | ⟨_, x, h, h1, h2⟩
  · rw [h] at hk; simp at hk
  · rw [h] at hk
    simp at hk
    rcases hk with rfl | rfl <;> omega
  all_goals
    rw [h] at hk
    simp at hk
    subst hk
    omega
theorem vi_word {b m : Int} {i : Ins} (h : VI b m i) : i.1.length ≤ 5 := by
  rcases h with ⟨h, _⟩ | ⟨h, _⟩ | ⟨h, _⟩ | ⟨h, _⟩ | ⟨h, _⟩
  · rcases isOne_cases h with h | h | h <;> rw [h] <;> decide
  · rw [h]; decide
  · rcases isAsking_cases h with h | h | h | h <;> rw [h] <;> decide
  · rw [h]; decide
  · rcases isJump_cases h with h | h <;> rw [h] <;> decide
theorem vi_few {b m : Int} {i : Ins} (h : VI b m i) : i.2.length ≤ 2 := by
  rcases h with ⟨_, h⟩ | ⟨_, x, y, h, _⟩ | ⟨_, x, h, _⟩ | ⟨_, x, h, _⟩ | ⟨_, x, h, _⟩ <;> rw [h] <;> simp
theorem rowL_len {m : Nat} : ∀ {r : List (List Nat)}, (∀ w ∈ r, w.length ≤ m) → (rowL r).length ≤ (m + 1) * r.length
  | [], _ => by simp [rowL, TL.joinL]
  | [w], h => by
    have := h w (by simp)
    simp [rowL, TL.joinL]
    omega
  | w :: v :: r, h => by
    have h1 := h w (by simp)
    have h2 := rowL_len (r := v :: r) fun z hz => h z (List.mem_cons_of_mem _ hz)
    have e : rowL (w :: v :: r) = w ++ 32 :: rowL (v :: r) := by simp [rowL, TL.joinL]
    rw [e, List.length_append, List.length_cons, List.length_cons (a := w), Nat.mul_succ]
    omega
theorem insRow_word {b m : Int} {i : Ins} (hb : b ≤ 6) (hm : m ≤ 6000) (h : VI b m i) : ∀ w ∈ insRow i, w.length ≤ 9 := by
  intro w hw
  unfold insRow at hw
  rcases List.mem_cons.mp hw with rfl | hw
  · have := vi_word h
    omega
  · obtain ⟨k, hk, rfl⟩ := List.mem_map.mp hw
    exact intL_len (vi_abs hb hm h k hk)
theorem insRow_len {b m : Int} {i : Ins} (hb : b ≤ 6) (hm : m ≤ 6000) (h : VI b m i) : (rowL (insRow i)).length ≤ 30 := by
  have h1 := rowL_len (m := 9) (insRow_word hb hm h)
  have h2 := vi_few h
  have h3 : (insRow i).length = i.2.length + 1 := by simp [insRow]
  rw [h3] at h1
  omega
section
variable {P : Program} {w : World} {K : PySem.W.Frag} {mg : Str → Option Value} {base : Heap} {d : Ad}
def spWriteProg (K : PySem.W.Frag) (d : Ad) : Sp := fun vs H Q _ => ∃ (v : V) (books : Int) (p : List Ins), vs = [.int books, v] ∧ 1 ≤ books ∧ books ≤ 6 ∧ Dp K H v (progD p) ∧ VP books p ∧ Tb d.T H ∧ ∀ H', Go d.T H H' → Q (.str (S (progText p))) H'
theorem dk_write_program (T : Tx K mg d) (B : Tbs base mg d) : DK P w K mg base CX0 8 "write_program" (spWriteProg K d) := by
  have d_need_number : DK P w K mg base CX0 2 "need_number" spNeedNumber := dk_need_number T
  have d_need_rows : DK P w K mg base CX0 7 "need_rows" (spNeedRows K d) := dk_need_rows T B
  refine T.d_write_program.dk0 sc_write_program (fun vs H Q E h => ?_) fun f cdv A outer s H vs Q E hr h => ?_
  · obtain ⟨_, _, _, rfl, _⟩ := h
    rfl
  · obtain ⟨v, books, p, rfl, hb1, hb6, hv, V0, tb, q⟩ := h
    refine ⟨_, (pss_cons (ps_expr (pe_d d_need_number hr (by decide) rfl pass0 (pa_cons (pv 0) (pa_cons pe_int (pa_cons (pe_op op_sub (C8.pe_gc rfl T.c_MOST_PLACES) pe_int) pa_nil)))))
    (pss_cons (ps_expr (pe_d d_need_rows hr (by decide) rfl pass0 (pa_cons (pv 1) (pa_cons (pv 0) (pa_cons (C8.pe_gc rfl T.c_MOST_KEPT) (pa_cons (C8.pe_gc rfl T.c_MOST_PLACES) pa_nil))))))
    (pss_one (ps_ret (pe_joinK K rfl pe_str (by exact (pe_lc (own := [("instruction", 2)]) (by rfl) sc_write_program.nd (pi_tupK K rfl (pv 1)) (blkOk_by (own := [("instruction", 2)]) (N := n_write_program) (sc := defScope s_write_program) (by decide +kernel)) (fun _ _ _ _ _ => by exact (pg_name (i := 2) sc_write_program.nd rfl (Or.inl rfl))) (fun _ _ _ _ _ => by exact pts_nil) (fun _ _ _ _ _ => by exact (pe_joinK K rfl pe_str (by exact (pe_lc (own := [("part", 3)]) (by rfl) sc_write_program.nd (pi_tupK K rfl (pv 2)) (blkOk_nf (own := [("part", 3)]) (N := n_write_program) (sc0 := defScope s_write_program) (by decide +kernel) (by decide +kernel)) (fun _ _ _ _ _ => by exact (pg_name (i := 3) sc_write_program.nd rfl (Or.inl rfl))) (fun _ _ _ _ _ => by exact pts_nil) (fun _ _ _ _ _ => by exact (pe_callTy call_strA (by rfl) T.f_str (by decide +kernel) (pa_cons (pv 3) pa_nil)))))))))))))), ?_⟩
    refine ⟨_, rfl, _, _, rfl, rfl, books, 1, 6, rfl, hb1, hb6, ?_⟩
    refine ⟨_, rfl, _, rfl, v, books, p, rfl, hv, V0, tb, fun H1 g1 => ?_⟩
    have hv1 := Dp.go g1 hv
    obtain ⟨a, xs, rfl, ha, hall⟩ := Dp.tup_inv hv1
    have xlen : xs.length = p.length := by
      have := DpAll.len hall
      simpa using this
    have hm := V0.most
    refine ⟨⟨_, rfl⟩, _, rfl, a, rfl, ⟨_, ha⟩, fun D nD => ?_⟩
    refine lc_val (walk_tup (xs := xs)) g1.t1 nD (fun H' g => g.st ha) yat_same (by omega) (fun i => (p[i]?).bind fun t => some (wV (rowL (insRow t)))) (fun i x H' H'' Post hi go hy gy hp => ?_) (fun H3 g3 e3 => ?_)
    · obtain ⟨rfl, hx⟩ := hy
      obtain ⟨dd, e1, e2⟩ := DpAll.get' hall hx
      rw [List.getElem?_map] at e1
      cases et : p[i]? with
      | none => rw [et] at e1; cases e1
      | some ins =>
        rw [et] at e1
        have e3 : dd = insD ins := (Option.some.inj e1).symm
        subst e3
        obtain ⟨b, rfl, hb⟩ := Dp.ins_inv (Dp.go go e2)
        have vi := V0.ok ins (List.mem_of_getElem? et)
        rw [et] at hp
        refine ⟨rfl, ?_⟩
        refine yes_ ?_
        refine ⟨⟨_, rfl⟩, _, rfl, b, rfl, ⟨_, hb⟩, fun D2 nD2 => ?_⟩
        refine lc_val (walk_tup (xs := V.str (S ins.1) :: ins.2.map V.int)) gy.t1 nD2 (fun H' g => g.st hb) yat_same (by have := vi_few vi; simp; omega) (fun j => ((insRow ins)[j]?).bind fun w => some (wV w)) (fun j x2 H4 H5 Post2 hj go2 hy2 gy2 hp2 => ?_) (fun H6 g6 e6 => ?_)
        · obtain ⟨rfl, hx2⟩ := hy2
          refine ⟨rfl, ?_⟩
          refine yes_ ?_
          have hp2' := hp2 H5 (Go.refl gy2.t1)
          cases j with
          | zero =>
            have ex : x2 = V.str (S ins.1) := (Option.some.inj hx2).symm
            subst ex
            exact ⟨_, rfl, .inr ⟨_, rfl, hp2'⟩⟩
          | succ j =>
            rw [List.getElem?_cons_succ, List.getElem?_map] at hx2
            cases ek : ins.2[j]? with
            | none => rw [ek] at hx2; cases hx2
            | some k =>
              rw [ek] at hx2
              have ex : x2 = V.int k := (Option.some.inj hx2).symm
              subst ex
              refine ⟨_, rfl, .inl ⟨k, rfl, int_log (vi_abs hb6 hm vi k (List.mem_of_getElem? ek)), ?_⟩⟩
              rw [int_toS]
              have e9 : (insRow ins)[j + 1]? = some (intL k) := by
                unfold insRow
                rw [List.getElem?_cons_succ, List.getElem?_map, ek]
                rfl
              rw [e9] at hp2'
              exact hp2'
        · have hlen9 : (V.str (S ins.1) :: ins.2.map V.int).length = (insRow ins).length := by simp [insRow]
          rw [hlen9, range_get, map_filterMap_some] at e6
          refine join_words (ws := insRow ins) (SqL.of e6) (fun r hr => by have := insRow_word hb6 hm vi r hr; omega) (by rw [← hlen9]; have := vi_few vi; simp; omega) ?_
          exact hp H6 g6
    · rw [xlen, range_get, map_filterMap_some] at e3
      refine join_rows (rows := p.map insRow) (SqL.of ?_) (fun r hr => ?_) (by rw [List.length_map]; omega) (q _ (g1.trans g3))
      · rw [e3, List.map_map, List.map_map]
        rfl
      · obtain ⟨i, hi, rfl⟩ := List.mem_map.mp hr
        have := insRow_len hb6 hm (V0.ok i hi)
        omega
end
end HK
set_option Elab.async false
set_option linter.all false
set_option maxRecDepth 100000
set_option maxHeartbeats 1000000
namespace HK
open PySem PySem.Spec PyProof.Rows L2 SX
def wrongF (m : Int) : Option Int → Int → Option V
  | none, _ => none
  | some b, k => if m ≤ b then some (.int k) else none
theorem wrong_vals (m : Int) : ∀ (st : List (Option Int)) (k : Int), (List.range st.length).filterMap (fun i : Nat => (st[i]?).bind fun o => wrongF m o (k + (i : Int))) = (wrongL m st k).map V.int
  | [], k => rfl
  | o :: st, k => by
    have ih := wrong_vals m st (k + 1)
    rw [List.length_cons, List.range_succ_eq_map, List.filterMap_cons, List.filterMap_map]
    have e : (fun i : Nat => ((o :: st)[i]?).bind fun o => wrongF m o (k + (i : Int))) ∘ Nat.succ = fun i : Nat => (st[i]?).bind fun o => wrongF m o (k + 1 + (i : Int)) := by
      funext i
      show ((o :: st)[i + 1]?).bind (fun o => wrongF m o (k + ((i + 1 : Nat) : Int))) = _
      rw [List.getElem?_cons_succ, show k + ((i + 1 : Nat) : Int) = k + 1 + (i : Int) by omega]
    rw [e, ih]
    cases o with
    | none => rfl
    | some b =>
      by_cases h : m ≤ b
      · simp [wrongF, wrongL, h]
      · simp [wrongF, wrongL, h]
theorem book_in (b : Int) : ∀ (acc : List (Option Int)), inV (.int b) (acc.map bookV) = decide (some b ∈ acc)
  | [] => rfl
  | o :: acc => by
    have ih := book_in b acc
    unfold inV at ih ⊢
    rw [List.map_cons, List.any_cons, ih]
    cases o with
    | none => simp [bookV, eqV]
    | some c =>
      rw [Bool.eq_iff_iff]
      simp [bookV, eqV]
      constructor
      · rintro (h | h)
        · exact .inl h.symm
        · exact .inr h
      · rintro (h | h)
        · exact .inl h.symm
        · exact .inr h
section
variable {P : Program} {w : World} {K : PySem.W.Frag} {mg : Str → Option Value} {base : Heap} {d : Ad}
def spReadStand (K : PySem.W.Frag) (d : Ad) : Sp := fun vs H Q E => ∃ (u : V) (y : Yd) (t : List Nat), vs = [u, .str (S t)] ∧ Dp K H u (yardD y) ∧ VY y ∧ t.length ≤ 5000 ∧ Tb d.T H ∧ Out d H E (readStandL y.n (wordsL t)) fun st => ∀ H' v, Go d.T H H' → Dp K H' v (standD st) → Q v H'
theorem dk_read_standing (T : Tx K mg d) (B : Tbs base mg d) : DK P w K mg base (L2.CX P w) 9 "read_standing" (spReadStand K d) := by
  have d_need_text : DK P w K mg base (L2.CX P w) 2 "need_text" (spNeedText d) := dk_need_text T
  have d_need_yard : DK P w K mg base CX0 7 "need_yard" (spNeedYard K d) := dk_need_yard T B
  have d_words_in : DK P w K mg base CX0 1 "words_in" spWordsIn := dk_words_in T
  have d_whole_in : DK P w K mg base CX0 6 "whole_in" (spWholeIn d) := dk_whole_in T B
  have d_need_end : DK P w K mg base (L2.CX P w) 4 "need_end" (spNeedEnd K d) := dk_need_end T
  refine T.d_read_standing.dkX sc_read_standing (fun vs H Q E h => ?_) fun f cdv A outer s H vs Q E hr h => ?_
  · obtain ⟨_, _, _, rfl, _⟩ := h
    rfl
  · obtain ⟨u, y, t, rfl, hu, vy, hl, tb, o⟩ := h
    obtain ⟨a, v2, rfl, ha, h2⟩ := Dp.yard_inv hu
    have hn2 := vy.lo
    have hn7 := vy.hi
    have wok := words_ok hl
    refine ⟨_, (pss_cons (ps_expr (pe_d d_need_yard hr (by decide) rfl pass0 (pa_cons (pv 0) pa_nil)))
    (pss_cons (ps_expr (pe_d d_need_text hr (by decide) rfl passE (pa_cons (pv 1) pa_nil)))
    (pss_cons (ps_par (i := 2) (j := 3) (by rfl) sc_read_standing.nd rfl rfl (by decide) rfl rfl (pa_cons (pe_d d_words_in hr (by decide) rfl pass0 (pa_cons (pv 1) pa_nil)) (pa_cons (pe_lst pa_nil) pa_nil)) (by rfl))
    (pss_cons (ps_for (passes_of rfl) rfl (pi_range1 (by rfl) T.f_range (pa_cons (pe_ix (ix_seqK K rfl) (pv 0) pe_int (fun _ _ => rfl)) pa_nil)) (pg_name (i := 4) sc_read_standing.nd rfl (Or.inl rfl))
      (pss_cons (ps_set (i := 5) sc_read_standing.nd rfl (Or.inl rfl) (pe_ifExp (pt_cmpR op_lt (pv 4) (pe_callB (call_lenK K rfl) (by rfl) T.f_len (by decide +kernel) (pa_cons (pv 2) pa_nil)) (nomark _)) (pe_ix (ix_seqK K rfl) (pv 2) (pv 4) (fun _ _ => rfl)) pe_str))
      (pss_cons (ps_set (i := 6) sc_read_standing.nd rfl (Or.inl rfl) (pe_ifExp (pt_cmpR op_eq (pv 5) pe_str (nomark _)) pe_non (pe_d d_whole_in hr (by decide) rfl pass0 (pa_cons (pv 5) (pa_cons pe_int (pa_cons (pe_op op_sub (pe_ix (ix_seqK K rfl) (pv 0) pe_int (fun _ _ => rfl)) pe_int) pa_nil))))))
      (pss_cons (ps_if (PW.pt (pw_or (PW.pt (pw_and (pt_cmpR op_ne (pv 5) pe_str (nomark _)) (pw_and1 (pt_cmpR op_isN (pv 6) pe_non (nomark _))))) (pw_or1 (PW.pt (pw_and (pt_cmpR op_notN (pv 6) pe_non (nomark _)) (pw_and1 (pt_cmpR (op_inK K rfl) (pv 6) (pv 3) rfl)))))))
        (pss_one (ps_bad T hr (by decide) rfl rfl (takes_of rfl rfl rfl rfl) (pa_cons pe_int (pa_cons (pe_op op_add (pv 4) pe_int) pa_nil))))
        pss_nil)
      (pss_one (ps_expr (pe_bm PySem.F.plainAttrs_list PySem.F.slot_list_append PySem.F.type_list_append mt_append (pv 3) (pa_cons (pv 6) pa_nil))))))))
    (pss_cons (ps_expr (pe_d d_need_end hr (by decide) rfl passE (pa_cons (pv 2) (pa_cons (pe_ix (ix_seqK K rfl) (pv 0) pe_int (fun _ _ => rfl)) (pa_cons pe_int pa_nil)))))
    (pss_cons (ps_set (i := 7) sc_read_standing.nd rfl (Or.inr rfl) (by exact (pe_lc (own := [("book", 6)]) (by rfl) sc_read_standing.nd (pi_listK K rfl (pv 3)) (blkOk_by (own := [("book", 6)]) (N := n_read_standing) (sc := defScope s_read_standing) (by decide +kernel)) (fun _ _ _ _ _ => by exact (pg_name (i := 6) sc_read_standing.nd rfl (Or.inl rfl))) (fun _ _ _ _ _ => by exact (pts_one (pt_cmpR op_notN (pv 6) pe_non (nomark _)))) (fun _ _ _ _ _ => by exact (pv 6)))))
    (pss_cons (ps_if (PW.pt (pw_or (pt_not (pt_truthK K rfl (pv 7) (by intro _; rfl))) (pw_or1 (pt_cmpR op_eq (pe_callB (call_lenK K rfl) (by rfl) T.f_len (by decide +kernel) (pa_cons (pv 7) pa_nil)) (pe_ix (ix_seqK K rfl) (pv 0) pe_int (fun _ _ => rfl)) (nomark _)))))
      (pss_one (ps_bad T hr (by decide) rfl rfl (takes_of rfl rfl rfl rfl) (pa_cons pe_int (pa_cons pe_int pa_nil))))
      pss_nil)
    (pss_cons (ps_setLc (i := 8) (own := [("place", 4), ("book", 6)]) (by rfl) sc_read_standing.nd rfl rfl (sw_true rfl rfl rfl (by decide +kernel)) (pi_enumK K rfl (by rfl) T.f_enumerate (pa_cons (pv 3) pa_nil)) (blkOk_by (own := [("place", 4), ("book", 6)]) (N := n_read_standing) (sc := defScope s_read_standing) (by decide +kernel)) (fun _ _ _ _ _ => by exact (pg_tupK K rfl (n := 2) (by rfl) (pgs_cons (pg_name (i := 4) sc_read_standing.nd rfl (Or.inl rfl)) (pgs_cons (pg_name (i := 6) sc_read_standing.nd rfl (Or.inl rfl)) pgs_nil)))) (fun _ _ _ _ _ => by exact (pts_one (PW.pt (pw_and (pt_cmpR op_notN (pv 6) pe_non (nomark _)) (pw_and1 (pt_cmpR op_ge (pv 6) (pe_callB (call_lenK K rfl) (by rfl) T.f_len (by decide +kernel) (pa_cons (pv 7) pa_nil)) (nomark _))))))) (fun _ _ _ _ _ => by exact (pv 4)))
    (pss_cons (ps_if (pt_truthK K rfl (pv 8) (by intro _; rfl))
      (pss_one (ps_bad T hr (by decide) rfl rfl (takes_of rfl rfl rfl rfl) (pa_cons pe_int (pa_cons (pe_op op_add (pe_ix (ix_seqK K rfl) (pv 8) pe_int (fun _ _ => rfl)) pe_int) pa_nil))))
      pss_nil)
    (pss_one (ps_ret (pe_callTy (call_tupK K rfl) (by rfl) T.f_tuple (by decide +kernel) (pa_cons (pv 3) pa_nil))))))))))))), ?_⟩
    refine ⟨_, rfl, _, y, rfl, hu, vy, vy_few vy, tb, fun H1 g1 => ?_⟩
    refine ⟨_, rfl, Or.inl ⟨S t, rfl, ?_⟩⟩
    refine ⟨_, rfl, t, rfl, by omega, fun H2 p s2 n2 hp => ?_⟩
    refine ⟨(show (0 : Nat) ≤ sizeLine by decide), fun b nb => ⟨_, _, rfl, ?_⟩⟩
    have g2 : Go d.T H H2 := g1.trans (Go.same g1.t1 s2)
    have nbH : H b = none := g2.free nb
    have g3 := g2.then nb (o := .lst [])
    have hpb : p ≠ b := ne_of_none hp nb
    have G3 : Go d.T H (hid b (upd H2 b (.lst []))) := by
      have z := go_hid g3 (g3.t0.nofree nbH)
      rwa [hid_none nbH] at z
    have nT : b ∉ d.T := g3.t0.nofree nbH
    generalize hws : wordsL t = ws at o wok hp
    have hw3 : SqL K (hid b (upd H2 b (.lst []))) p (ws.map wV) := SqL.of (by rw [hid_ne hpb, upd_ne hpb]; exact hp)
    refine ⟨_, rfl, Or.inr (Or.inl ⟨a, _, 0, _, rfl, rfl, g3.st ha, rfl, y.n, rfl, by omega, by omega, ?_⟩)⟩
    refine for_range (lo := 0) (n := y.n.toNat) (fun i σ H' => ∃ (acc : List (Option Int)) (w4 w5 w6 : Option V), σ = [some (.ref a), some (.str (S t)), some (.ref p), some (.ref b), w4, w5, w6, none, none] ∧ Go d.T H (hid b H') ∧ SqL K (hid b H') p (ws.map wV) ∧ H' b = some (.lst (acc.map bookV)) ∧
      standLoop y.n ws y.n.toNat 0 [] = standLoop y.n ws (y.n.toNat - i) i acc ∧ acc.length = i) ⟨[], none, none, none, rfl, G3, hw3, upd_same, rfl, rfl⟩ ?_ ?_
    · rintro i σ H4 hi ⟨acc, w4, w5, w6, rfl, G4, hw4, hb4, hst, hal⟩
      have g4 : Go d.T H H4 := go_un nbH G4
      have hw4' : SqL K H4 p (ws.map wV) := (go_unhid (t00 _) (by simp) : Go [] (hid b H4) H4).sl hw4
      have ek : y.n.toNat - i = (y.n.toNat - (i + 1)) + 1 := by omega
      rw [ek, standLoop] at hst
      have bad : standLoop y.n ws y.n.toNat 0 [] = .error (1, (i : Int) + 1) → Bad d H E (1, (i : Int) + 1) := fun h => by
        unfold readStandL at o
        rw [h] at o
        exact o
      refine ⟨_, rfl, _, rfl, .ref p, ws.length, rfl, Or.inl ⟨_, hw4', by simp⟩, _, _, rfl, rfl, decide (i < ws.length), ?_, ?_⟩
      · refine congrArg V.bl ?_
        rw [Bool.eq_iff_iff, decide_eq_true_eq, decide_eq_true_eq]
        omega
      have step : ∀ (σ : L2.St) (Q : VK), σ[2]? = some (some (.ref p)) → σ[4]? = some (some (.int (0 + (i : Int)))) → Q (.str (S (ws.getD i []))) H4 → (if decide (i < ws.length) = true then tOp (rIx K) (tVar 2) (tVar 4) σ H4 Q else tC (.str "") σ H4 Q) := fun σ Q h2 h4 q => by
        by_cases c : i < ws.length
        · rw [decide_eq_true c]
          have ew : ws[i]? = some ws[i] := List.getElem?_eq_getElem c
          rw [show ws.getD i [] = ws[i] by rw [List.getD_eq_getElem?_getD, ew]; rfl] at q
          refine iteT ⟨_, h2, _, h4, Or.inl ⟨p, _, i, .str (S ws[i]), rfl, by rw [Int.zero_add], hw4', atI_nat (by rw [List.getElem?_map, ew]; rfl), q⟩⟩
        · rw [decide_eq_false c]
          rw [show ws.getD i [] = [] by rw [List.getD_eq_getElem?_getD, List.getElem?_eq_none (by omega)]; rfl] at q
          refine iteF ?_
          show Q (.str "") H4
          rw [w_empty]
          exact q
      refine step _ _ rfl rfl ?_
      generalize hwd : ws.getD i [] = wd at hst ⊢
      have hwl : wd.length ≤ 6000 := by
        rw [← hwd, List.getD_eq_getElem?_getD]
        by_cases c : i < ws.length
        · rw [List.getElem?_eq_getElem c]
          exact wok.2 _ (List.getElem_mem c)
        · rw [List.getElem?_eq_none (by omega)]
          simp
      -- the book
      have edash : decide (V.str (S wd) = V.str ("-" : Str)) = decide (wd = [45]) := by
        rw [w_dash, S_dec, Bool.eq_iff_iff]
        simp
      have hsz : acc.length < sizeLine := by rw [sizeLine_eq]; omega
      by_cases cd : wd = [45]
      · rw [if_pos cd] at hst
        refine ⟨_, rfl, rfl, true, by rw [edash, decide_eq_true cd], iteT ?_⟩
        refine ⟨_, rfl, rfl, false, by rw [edash, decide_eq_true cd]; rfl, iteF (iteF ?_)⟩
        refine ⟨_, rfl, rfl, false, rfl, iteF (iteF ?_)⟩
        refine ⟨_, rfl, Or.inl ⟨rfl, _, SqL.of hb4⟩, _, rfl, b, _, _, rfl, rfl, hb4, by rw [List.length_map]; exact hsz, ?_⟩
        refine ⟨acc ++ [none], _, _, _, rfl, by rw [hid_upd]; exact G4, by rw [hid_upd]; exact hw4, by rw [upd_same, List.map_append]; rfl, hst, by rw [List.length_append, hal]; rfl⟩
      · rw [if_neg cd] at hst
        refine ⟨_, rfl, rfl, false, by rw [edash, decide_eq_false cd], iteF ?_⟩
        refine ⟨_, rfl, _, rfl, Or.inr (Or.inl ⟨a, _, 0, _, rfl, rfl, g4.st ha, rfl, _, _, rfl, rfl, wd, 0, y.n - 2, rfl, by omega, g4.t1, fun H5 g5 => ?_⟩)⟩
        have G5 : Go d.T H (hid b H5) := G4.trans (go_hid g5 nT)
        have hw5 : SqL K (hid b H5) p (ws.map wV) := (go_hid g5 nT).sl hw4
        have hb5 := g5.lst hb4
        cases ew : wholeL wd 0 (y.n - 2) with
        | none =>
          rw [ew] at hst
          refine ⟨_, rfl, rfl, true, by rw [edash, decide_eq_false cd]; rfl, iteT ⟨_, rfl, rfl, true, rfl, iteT (iteT ?_)⟩⟩
          refine ⟨_, rfl, _, _, rfl, rfl, 1, (i : Int) + 1, by rw [Int.zero_add], fun H6 dx s6 n6 x6 => ?_⟩
          exact bad hst H6 dx ((go_un nbH G5).trans (Go.same g5.t1 s6)) x6
        | some bk =>
          rw [ew] at hst
          refine ⟨_, rfl, rfl, true, by rw [edash, decide_eq_false cd]; rfl, iteT ⟨_, rfl, rfl, false, rfl, iteF ?_⟩⟩
          refine ⟨_, rfl, rfl, true, rfl, iteT ?_⟩
          refine ⟨_, rfl, _, rfl, b, _, rfl, Or.inl (SqL.of hb5), rfl, bookV_flat acc, decide (some bk ∈ acc), by rw [if_neg (by decide)]; exact congrArg V.bl (book_in bk acc), ?_⟩
          simp only at hst
          by_cases cm : some bk ∈ acc
          · rw [decide_eq_true cm]
            rw [if_pos cm] at hst
            refine iteT ⟨_, rfl, _, _, rfl, rfl, 1, (i : Int) + 1, by rw [Int.zero_add], fun H6 dx s6 n6 x6 => ?_⟩
            exact bad hst H6 dx ((go_un nbH G5).trans (Go.same g5.t1 s6)) x6
          · rw [decide_eq_false cm]
            rw [if_neg cm] at hst
            refine iteF ?_
            refine ⟨_, rfl, Or.inl ⟨rfl, _, SqL.of hb5⟩, _, rfl, b, _, _, rfl, rfl, hb5, by rw [List.length_map]; exact hsz, ?_⟩
            refine ⟨acc ++ [some bk], _, _, _, rfl, by rw [hid_upd]; exact G5, by rw [hid_upd]; exact hw5, by rw [upd_same, List.map_append]; rfl, hst, by rw [List.length_append, hal]; rfl⟩
    · rintro σ H4 ⟨acc, w4, w5, w6, rfl, G4, hw4, hb4, hst, hal⟩
      have g4 : Go d.T H H4 := go_un nbH G4
      have hw4' : SqL K H4 p (ws.map wV) := (go_unhid (t00 _) (by simp) : Go [] (hid b H4) H4).sl hw4
      have e0 : standLoop y.n ws y.n.toNat 0 [] = .ok acc := by
        rw [hst, Nat.sub_self]
        rfl
      have hlen : (acc.length : Int) = y.n := by omega
      unfold readStandL at o
      rw [e0] at o
      simp only at o
      refine ⟨_, rfl, _, rfl, Or.inr (Or.inl ⟨a, _, 0, _, rfl, rfl, g4.st ha, rfl, .ref p, ws, y.n.toNat, 1, ?_, ⟨p, rfl, hw4'⟩, g4.t1, ?_⟩)⟩
      · rw [Int.toNat_of_nonneg (by omega)]
        rfl
      unfold Out
      cases ee : endL ws y.n.toNat 1 with
      | error e =>
        rw [ee] at o
        exact fun H5 dx g5 x5 => o H5 dx (g4.trans g5) x5
      | ok uu =>
        rw [ee] at o
        simp only at o
        refine ⟨_, rfl, b, rfl, ⟨_, SqL.of hb4⟩, fun D nD => ?_⟩
        refine lc_val (walk_list (xs := acc.map bookV)) g4.t1 nD (fun H' g => g.sl (SqL.of hb4)) yat_same (by simp; omega) (fun i => (acc[i]?).bind bookF) (fun i x H' H'' Post hi go hy gy hp => ?_) (fun H5 g5 e5 => ?_)
        · obtain ⟨rfl, hx⟩ := hy
          rw [List.getElem?_map] at hx
          cases e : acc[i]? with
          | none => rw [e] at hx; cases hx
          | some oo =>
            rw [e] at hx
            have ex : x = bookV oo := (Option.some.inj hx).symm
            subst ex
            have hp' := hp H'' (Go.refl gy.t1)
            rw [e] at hp'
            refine ⟨rfl, _, rfl, rfl, _, rfl, ?_⟩
            cases oo with
            | none => exact iteF hp'
            | some bk => exact iteT ⟨_, rfl, hp'⟩
        · rw [List.length_map, range_get, books_vals] at e5
          have g45 := g4.trans g5
          have hb5 := g5.lst hb4
          have hbl : (booksL acc).length ≤ acc.length := List.length_filterMap_le _ _
          refine ⟨_, rfl, !((booksL acc).map V.int).isEmpty, Or.inl ⟨_, SqL.of e5, rfl⟩, ?_⟩
          by_cases c1 : booksL acc = []
          · rw [if_pos (.inl c1)] at o
            rw [c1]
            refine iteT (iteT ⟨1, 1, rfl, fun H6 dx s6 n6 x6 => ?_⟩)
            exact o H6 dx (g45.trans (Go.same g5.t1 s6)) x6
          · rw [show (!((booksL acc).map V.int).isEmpty) = true by
              cases h : booksL acc with
              | nil => exact absurd h c1
              | cons a b => rfl]
            refine iteF ⟨_, rfl, .ref D, (booksL acc).length, rfl, Or.inl ⟨_, SqL.of e5, by simp⟩, _, rfl, Or.inr (Or.inl ⟨a, _, 0, _, rfl, rfl, g45.st ha, rfl, rfl, decide (((booksL acc).length : Int) = y.n), ?_, ?_⟩)⟩
            · refine congrArg V.bl ?_
              rw [Bool.eq_iff_iff, decide_eq_true_eq, decide_eq_true_eq]
              constructor
              · exact V.int.inj
              · exact congrArg V.int
            by_cases c2 : ((booksL acc).length : Int) = y.n
            · rw [if_pos (.inr c2)] at o
              rw [decide_eq_true c2]
              refine iteT ⟨1, 1, rfl, fun H6 dx s6 n6 x6 => ?_⟩
              exact o H6 dx (g45.trans (Go.same g5.t1 s6)) x6
            · rw [if_neg (by rw [not_or]; exact ⟨c1, c2⟩)] at o
              rw [decide_eq_false c2]
              refine iteF ⟨_, rfl, b, _, rfl, SqL.of hb5, fun D2 nD2 => ?_⟩
              refine lc_val (walk_enum (xs := acc.map bookV)) g5.t1 nD2 (fun H' g => g.sl (SqL.of hb5)) ypair_same (by simp; omega) (fun i => (acc[i]?).bind fun o => wrongF ((booksL acc).length : Int) o (0 + (i : Int))) (fun i x H' H'' Post hi go hy gy hp => ?_) (fun H6 g6 e6 => ?_)
              · obtain ⟨tp, k, z, rfl, nt, rfl, e1, e2⟩ := hy
                have e1 := (Option.some.inj e1).symm
                subst e1
                replace e2 : (acc.map bookV)[i]? = some z := e2
                rw [List.getElem?_map] at e2
                cases e : acc[i]? with
                | none => rw [e] at e2; cases e2
                | some oo =>
                  rw [e] at e2
                  have ex : z = bookV oo := (Option.some.inj e2).symm
                  subst ex
                  have hp' := hp _ gy
                  rw [e] at hp'
                  refine ⟨tp, _, rfl, .inl (.inl upd_same), rfl, _, _, rfl, _, _, rfl, rfl, rfl, ?_⟩
                  cases oo with
                  | none => exact ⟨_, rfl, rfl, false, rfl, iteF (iteF hp')⟩
                  | some bk =>
                    refine ⟨_, rfl, rfl, true, rfl, iteT ⟨_, rfl, _, rfl, .ref D, (booksL acc).length, rfl, Or.inl ⟨_, (go.trans gy).sl (SqL.of e5), by simp⟩, _, _, rfl, rfl, decide (((booksL acc).length : Int) ≤ bk), rfl, ?_⟩⟩
                    have hp2 : Post (if ((booksL acc).length : Int) ≤ bk then some (.int (0 + (i : Int))) else none) _ := hp'
                    by_cases c3 : ((booksL acc).length : Int) ≤ bk
                    · rw [decide_eq_true c3]
                      rw [if_pos c3, Int.zero_add] at hp2
                      exact iteT ⟨_, rfl, hp2⟩
                    · rw [decide_eq_false c3]
                      rw [if_neg c3] at hp2
                      exact iteF hp2
              · rw [List.length_map, wrong_vals] at e6
                have g46 := g45.trans g6
                refine ⟨_, rfl, !((wrongL ((booksL acc).length : Int) acc 0).map V.int).isEmpty, Or.inl ⟨_, SqL.of e6, rfl⟩, ?_⟩
                cases ew : wrongL ((booksL acc).length : Int) acc 0 with
                | nil =>
                  rw [ew] at o
                  refine iteF ⟨_, rfl, b, _, rfl, Or.inl ⟨SqL.of (g6.lst hb5), fun q nq => ?_⟩⟩
                  exact o _ _ (g46.then nq) (.tup (.inl (.inl upd_same)) (stand_all acc))
                | cons k ks =>
                  rw [ew] at o e6
                  refine iteT ⟨_, rfl, Or.inl ⟨D2, _, 0, _, rfl, rfl, SqL.of e6, at0, _, _, rfl, rfl, 1, k + 1, rfl, fun H7 dx s7 n7 x7 => ?_⟩⟩
                  exact o H7 dx (g46.trans (Go.same g6.t1 s7)) x7
end
end HK
set_option Elab.async false
set_option linter.all false
set_option maxRecDepth 100000
set_option maxHeartbeats 1000000
namespace HK
open PySem PySem.Spec PyProof.Rows L2 SX
def numI (ws : List (List Nat)) (w0 : List Nat) (at_ : Int) (r : Res Int) : Res Ins := match r with
  | .error e => .error e
  | .ok n => match endL ws 2 at_ with
    | .error e => .error e
    | .ok _ => .ok (w0, [n])
section
variable {books at_ : Int} {w0 : List Nat} {wr : List (List Nat)}
theorem instr1 (h : isOne w0 = true) : instrL books (w0 :: wr) at_ = match endL (w0 :: wr) 1 at_ with
    | .error e => .error e
    | .ok _ => .ok (w0, []) := if_pos h
theorem instr2 (h1 : ¬ isOne w0 = true) (h2 : w0 = kSlide) : instrL books (w0 :: wr) at_ = match takenL (w0 :: wr) 1 0 6 at_ with
    | .error e => .error e
    | .ok a => match takenL (w0 :: wr) 2 0 6 at_ with
      | .error e => .error e
      | .ok b => match endL (w0 :: wr) 3 at_ with
        | .error e => .error e
        | .ok _ => .ok (w0, [a, b]) := (if_neg h1).trans (if_pos h2)
theorem instrN (h1 : ¬ isOne w0 = true) (h2 : ¬ w0 = kSlide) : instrL books (w0 :: wr) at_ = numI (w0 :: wr) w0 at_ (if isAsking w0 = true then takenL (w0 :: wr) 1 0 (books - 1) at_ else if w0 = kPut then takenL (w0 :: wr) 1 (-1000000) 1000000 at_ else if isJump w0 = true then takenL (w0 :: wr) 1 0 6000 at_ else .error (at_, 1)) := by
  refine ((if_neg h1).trans (if_neg h2)).trans ?_
  unfold numI
  rfl
end
section
variable {P : Program} {w : World} {K : PySem.W.Frag} {mg : Str → Option Value} {base : Heap} {d : Ad}
def spInsIn (K : PySem.W.Frag) (d : Ad) : Sp := fun vs H Q E => ∃ (v : V) (ws : List (List Nat)) (books at_ : Int), vs = [v, .int books, .int at_] ∧ WordsAt K H v ws ∧ ws ≠ [] ∧ WsOk ws ∧ Tb d.T H ∧ Out d H E (instrL books ws at_) fun i => ∀ H' v, Go d.T H H' → Dp K H' v (insD i) → Q v H'
theorem dk_instruction_in (T : Tx K mg d) (B : Tbs base mg d) : DK P w K mg base (L2.CX P w) 8 "instruction_in" (spInsIn K d) := by
  have d_taken : DK P w K mg base (L2.CX P w) 7 "taken" (spTaken K d) := dk_taken T B
  have d_need_end : DK P w K mg base (L2.CX P w) 4 "need_end" (spNeedEnd K d) := dk_need_end T
  refine T.d_instruction_in.dkX sc_instruction_in (fun vs H Q E h => ?_) fun f cdv A outer s H vs Q E hr h => ?_
  · obtain ⟨_, _, _, _, rfl, _⟩ := h
    rfl
  · obtain ⟨v, ws, books, at_, rfl, hw, hne, wok, tb, o⟩ := h
    obtain ⟨p, rfl, hp⟩ := id hw
    obtain ⟨w0, wr, rfl⟩ : ∃ w0 wr, ws = w0 :: wr := by
      cases ws with
      | nil => exact absurd rfl hne
      | cons a b => exact ⟨a, b, rfl⟩
    refine ⟨_, (pss_cons (ps_set (i := 3) sc_instruction_in.nd rfl (Or.inl rfl) (pe_ix (ix_seqK K rfl) (pv 0) pe_int (fun _ _ => rfl)))
    (pss_cons (ps_if (pt_cmpR (op_inK K rfl) (pv 3) (pe_tup (pa_cons pe_str (pa_cons pe_str (pa_cons pe_str pa_nil)))) rfl)
      (pss_cons (ps_expr (pe_d d_need_end hr (by decide) rfl passE (pa_cons (pv 0) (pa_cons pe_int (pa_cons (pv 2) pa_nil)))))
      (pss_one (ps_ret (pe_tup (pa_cons (pv 3) pa_nil)))))
      pss_nil)
    (pss_cons (ps_if (pt_cmpR op_eq (pv 3) pe_str (nomark _))
      (pss_cons (ps_set (i := 4) sc_instruction_in.nd rfl (Or.inl rfl) (pe_tup (pa_cons (pv 3) (pa_cons (pe_d d_taken hr (by decide) rfl passE (pa_cons (pv 0) (pa_cons pe_int (pa_cons pe_int (pa_cons (pe_op op_sub (C8.pe_gc rfl T.c_MOST_PLACES) pe_int) (pa_cons (pv 2) pa_nil)))))) (pa_cons (pe_d d_taken hr (by decide) rfl passE (pa_cons (pv 0) (pa_cons pe_int (pa_cons pe_int (pa_cons (pe_op op_sub (C8.pe_gc rfl T.c_MOST_PLACES) pe_int) (pa_cons (pv 2) pa_nil)))))) pa_nil)))))
      (pss_cons (ps_expr (pe_d d_need_end hr (by decide) rfl passE (pa_cons (pv 0) (pa_cons pe_int (pa_cons (pv 2) pa_nil)))))
      (pss_one (ps_ret (pv 4)))))
      pss_nil)
    (pss_cons (ps_if (pt_cmpR (op_inK K rfl) (pv 3) (C8.pe_gc rfl T.c_ASKING) rfl)
      (pss_one (ps_set (i := 5) sc_instruction_in.nd rfl (Or.inl rfl) (pe_d d_taken hr (by decide) rfl passE (pa_cons (pv 0) (pa_cons pe_int (pa_cons pe_int (pa_cons (pe_op op_sub (pv 1) pe_int) (pa_cons (pv 2) pa_nil))))))))
      (pss_one (ps_if (pt_cmpR op_eq (pv 3) pe_str (nomark _))
        (pss_one (ps_set (i := 5) sc_instruction_in.nd rfl (Or.inl rfl) (pe_d d_taken hr (by decide) rfl passE (pa_cons (pv 0) (pa_cons pe_int (pa_cons (pe_un un_neg (C8.pe_gc rfl T.c_GREATEST)) (pa_cons (C8.pe_gc rfl T.c_GREATEST) (pa_cons (pv 2) pa_nil))))))))
        (pss_one (ps_if (pt_cmpR (op_inK K rfl) (pv 3) (pe_tup (pa_cons pe_str (pa_cons pe_str pa_nil))) rfl)
          (pss_one (ps_set (i := 5) sc_instruction_in.nd rfl (Or.inl rfl) (pe_d d_taken hr (by decide) rfl passE (pa_cons (pv 0) (pa_cons pe_int (pa_cons pe_int (pa_cons (C8.pe_gc rfl T.c_MOST_KEPT) (pa_cons (pv 2) pa_nil))))))))
          (pss_one (ps_bad T hr (by decide) rfl rfl (takes_of rfl rfl rfl rfl) (pa_cons (pv 2) (pa_cons pe_int pa_nil)))))))))
    (pss_cons (ps_expr (pe_d d_need_end hr (by decide) rfl passE (pa_cons (pv 0) (pa_cons pe_int (pa_cons (pv 2) pa_nil)))))
    (pss_one (ps_ret (pe_tup (pa_cons (pv 3) (pa_cons (pv 5) pa_nil)))))))))), ?_⟩
    refine ⟨_, rfl, Or.inl ⟨p, _, 0, _, rfl, rfl, hp, at0, ?_⟩⟩
    refine ⟨_, rfl, (show (3 : Nat) ≤ sizeLine by decide), fun p1 n1 => ⟨p1, _, rfl, Or.inr (.inl (.inl upd_same)), rfl, rfl, isOne w0, by rw [if_neg (by decide)]; exact congrArg V.bl (in_one w0), ?_⟩⟩
    have g1 := Go.new (o := .tup [.str "say", .str "ask", .str "stop"]) tb n1
    by_cases c1 : isOne w0 = true
    · rw [c1]
      rw [instr1 c1] at o
      refine iteT ⟨_, rfl, _, rfl, _, w0 :: wr, 1, at_, rfl, hw.go g1, g1.t1, ?_⟩
      unfold Out
      cases ee : endL (w0 :: wr) 1 at_ with
      | error e =>
        rw [ee] at o
        exact fun H2 dx g2 x2 => o H2 dx (g1.trans g2) x2
      | ok uu =>
        rw [ee] at o
        refine ⟨_, rfl, (show (1 : Nat) ≤ sizeLine by decide), fun p2 n2 => ?_⟩
        exact o _ _ (g1.then n2) (.tup (.inl (.inl upd_same)) (.cons (.str _) .nil))
    rw [show isOne w0 = false by simpa using c1]
    refine iteF ⟨_, rfl, rfl, w0 == kSlide, congrArg V.bl (eq_slide w0), ?_⟩
    by_cases c2 : w0 = kSlide
    · rw [show (w0 == kSlide) = true by simpa using c2]
      rw [instr2 c1 c2] at o
      refine iteT ⟨_, rfl, _, rfl, _, _, rfl, rfl, _, rfl, _, w0 :: wr, 1, 0, 6, at_, rfl, hw.go g1, wok, by omega, g1.t1, ?_⟩
      unfold Out
      cases e1 : takenL (w0 :: wr) 1 0 6 at_ with
      | error e =>
        rw [e1] at o
        exact fun H2 dx g2 x2 => o H2 dx (g1.trans g2) x2
      | ok a =>
        rw [e1] at o
        intro H2 g2
        have g12 := g1.trans g2
        refine ⟨_, rfl, _, _, rfl, rfl, _, rfl, _, w0 :: wr, 2, 0, 6, at_, rfl, hw.go g12, wok, by omega, g2.t1, ?_⟩
        unfold Out
        simp only at o
        cases e2 : takenL (w0 :: wr) 2 0 6 at_ with
        | error e =>
          rw [e2] at o
          exact fun H3 dx g3 x3 => o H3 dx (g12.trans g3) x3
        | ok b =>
          rw [e2] at o
          intro H3 g3
          have g13 := g12.trans g3
          refine ⟨(show (3 : Nat) ≤ sizeLine by decide), fun p4 n4 => ?_⟩
          have g4 := g13.then n4 (o := .tup [.str (S w0), .int a, .int b])
          refine ⟨_, rfl, _, rfl, _, w0 :: wr, 3, at_, rfl, hw.go g4, g4.t1, ?_⟩
          unfold Out
          simp only at o
          cases ee : endL (w0 :: wr) 3 at_ with
          | error e =>
            rw [ee] at o
            exact fun H5 dx g5 x5 => o H5 dx (g4.trans g5) x5
          | ok uu =>
            rw [ee] at o
            refine ⟨_, rfl, ?_⟩
            exact o _ _ g4 (.tup (.inl (.inl upd_same)) (.cons (.str _) (.cons (.int _) (.cons (.int _) .nil))))
    rw [show (w0 == kSlide) = false by simpa using c2]
    rw [instrN c1 c2] at o
    refine iteF ⟨_, rfl, d.aA, _, rfl, Or.inr (T.t_ASKING _), rfl, rfl, isAsking w0, by rw [if_neg (by decide)]; exact congrArg V.bl (in_asking w0), ?_⟩
    by_cases c3 : isAsking w0 = true
    · rw [c3]
      rw [if_pos c3] at o
      refine iteT ⟨_, rfl, _, rfl, _, _, rfl, rfl, _, rfl, _, w0 :: wr, 1, 0, books - 1, at_, rfl, hw.go g1, wok, by omega, g1.t1, ?_⟩
      unfold numI at o
      unfold Out
      cases e1 : takenL (w0 :: wr) 1 0 (books - 1) at_ with
      | error e =>
        rw [e1] at o
        exact fun H3 dx g3 x3 => o H3 dx (g1.trans g3) x3
      | ok n =>
        rw [e1] at o
        intro H3 g3
        have g13 := g1.trans g3
        refine ⟨_, rfl, _, rfl, _, w0 :: wr, 2, at_, rfl, hw.go g13, g3.t1, ?_⟩
        unfold Out
        simp only at o
        cases ee : endL (w0 :: wr) 2 at_ with
        | error e =>
          rw [ee] at o
          exact fun H4 dx g4 x4 => o H4 dx (g13.trans g4) x4
        | ok uu =>
          rw [ee] at o
          refine ⟨_, rfl, _, rfl, (show (2 : Nat) ≤ sizeLine by decide), fun p4 n4 => ?_⟩
          exact o _ _ (g13.then n4) (.tup (.inl (.inl upd_same)) (.cons (.str _) (.cons (.int _) .nil)))
    rw [show isAsking w0 = false by simpa using c3]
    rw [if_neg c3] at o
    refine iteF ⟨_, rfl, rfl, w0 == kPut, congrArg V.bl (eq_put w0), ?_⟩
    by_cases c4 : w0 = kPut
    · rw [show (w0 == kPut) = true by simpa using c4]
      rw [if_pos c4] at o
      refine iteT ⟨_, rfl, _, rfl, _, rfl, _, w0 :: wr, 1, -1000000, 1000000, at_, rfl, hw.go g1, wok, by omega, g1.t1, ?_⟩
      unfold numI at o
      unfold Out
      cases e1 : takenL (w0 :: wr) 1 (-1000000) 1000000 at_ with
      | error e =>
        rw [e1] at o
        exact fun H3 dx g3 x3 => o H3 dx (g1.trans g3) x3
      | ok n =>
        rw [e1] at o
        intro H3 g3
        have g13 := g1.trans g3
        refine ⟨_, rfl, _, rfl, _, w0 :: wr, 2, at_, rfl, hw.go g13, g3.t1, ?_⟩
        unfold Out
        simp only at o
        cases ee : endL (w0 :: wr) 2 at_ with
        | error e =>
          rw [ee] at o
          exact fun H4 dx g4 x4 => o H4 dx (g13.trans g4) x4
        | ok uu =>
          rw [ee] at o
          refine ⟨_, rfl, _, rfl, (show (2 : Nat) ≤ sizeLine by decide), fun p4 n4 => ?_⟩
          exact o _ _ (g13.then n4) (.tup (.inl (.inl upd_same)) (.cons (.str _) (.cons (.int _) .nil)))
    rw [show (w0 == kPut) = false by simpa using c4]
    rw [if_neg c4] at o
    refine iteF ⟨_, rfl, (show (2 : Nat) ≤ sizeLine by decide), fun p2 n2 => ⟨p2, _, rfl, Or.inr (.inl (.inl upd_same)), rfl, rfl, isJump w0, by rw [if_neg (by decide)]; exact congrArg V.bl (in_jump w0), ?_⟩⟩
    have g2 := g1.then n2 (o := .tup [.str "zero", .str "go"])
    by_cases c5 : isJump w0 = true
    · rw [c5]
      rw [if_pos c5] at o
      refine iteT ⟨_, rfl, _, rfl, _, w0 :: wr, 1, 0, 6000, at_, rfl, hw.go g2, wok, by omega, g2.t1, ?_⟩
      unfold numI at o
      unfold Out
      cases e1 : takenL (w0 :: wr) 1 0 6000 at_ with
      | error e =>
        rw [e1] at o
        exact fun H3 dx g3 x3 => o H3 dx (g2.trans g3) x3
      | ok n =>
        rw [e1] at o
        intro H3 g3
        have g13 := g2.trans g3
        refine ⟨_, rfl, _, rfl, _, w0 :: wr, 2, at_, rfl, hw.go g13, g3.t1, ?_⟩
        unfold Out
        simp only at o
        cases ee : endL (w0 :: wr) 2 at_ with
        | error e =>
          rw [ee] at o
          exact fun H4 dx g4 x4 => o H4 dx (g13.trans g4) x4
        | ok uu =>
          rw [ee] at o
          refine ⟨_, rfl, _, rfl, (show (2 : Nat) ≤ sizeLine by decide), fun p4 n4 => ?_⟩
          exact o _ _ (g13.then n4) (.tup (.inl (.inl upd_same)) (.cons (.str _) (.cons (.int _) .nil)))
    · rw [show isJump w0 = false by simpa using c5]
      rw [if_neg c5] at o
      unfold numI at o
      refine iteF ⟨_, rfl, at_, 1, rfl, fun H3 dx s3 n3 x3 => ?_⟩
      exact o H3 dx (g2.trans (Go.same g2.t1 s3)) x3
end
end HK
set_option Elab.async false
set_option linter.all false
set_option maxRecDepth 100000
set_option maxHeartbeats 4000000
/-! A list comprehension whose element may raise: the exception goes through the block. -/
namespace HK
open PySem PySem.Spec PyProof.Rows L2 SX
section
variable {M : Model} {A : Around} {E : Value → Shared → Prop} {s : Shared} {env : Env}
/-- what is behind the block: what the library's rule asks; of an exception, with the block's own frame -/
def outP (M : Model) (A : Around) (E : Value → Shared → Prop) (use : Option (Value → Sem Unit)) (Q : Value → Shared → Prop) (acc : Value) (scope : Scope) (env cenv : Env) (r : Result) (s' : Shared) : Prop :=
  match r with
  | .ok f => compPost M A E use Q acc cenv.locals (.ok f) s'
  | .error x => ∃ m, Heap.Ns s'.heap cenv.locals m ∧
      ∀ h', Heap.SameBut cenv.locals s'.heap h' → wpAny M A (passOn "comprehension.variables-let-go" x { cenv with scope := relabel scope env } : Sem Value) (fun _ _ => False) E { s' with heap := h' }
theorem comp_x {e : Expr} {scope : Scope} {pos : Pos} {mk fst : Sem Value} {g : Comprehension} {gs : List Comprehension} {cl : List (Str × Addr)} {use : Option (Value → Sem Unit)} {Q : Value → Shared → Prop}
    (c1 : clausesOf e = g :: gs) (c2 : ∀ x, foldedSetIterable g.iter env x = pure x) (c3 : closureFor scope env = pure cl) (c4 : scope.kind = .function)
    (c5 : ∀ x ∈ scope.names, x.2 = .local → scope.names.lookup x.1 = some .local)
    (h : wpAny M A fst (fun x t1 => wpAny M A (pyIter x) (fun it t2 => wpAny M A mk (fun acc t3 => wpAny M A (newFunctionEnv scope env.globals cl [] env.qual none .none (some env))
      (fun cenv t4 => codeAny M A (.compStart e 0 it acc { cenv with scope := relabel scope env }) (outP M A E use Q acc scope env cenv) t4) E t3) E t2) E t1) E s) :
    wpAny M A (comprehension e scope env pos mk false fst use) Q E s := by
  have keepE : ∀ (x : Value) (t : Shared), E x t → E x t := fun _ _ z => z
  unfold comprehension
  rw [c3, c1]
  refine wpAny_bind (wpAny_mono h (fun x t1 k1 => ?_) keepE)
  refine wpAny_bind (wpAny_standAt (wpAny_bind (wpAny_of_eq (c2 x) (wpAny_bind (wpAny_holding (wpAny_mono k1 (fun it t2 k2 => ?_) keepE))))))
  refine wpAny_standIf (wpAny_bind (wpAny_mono k2 (fun acc t3 k3 => ?_) keepE))
  refine wpAny_bind (wpAny_pure (wpAny_bind (wpAny_mono k3 (fun cenv t4 k4 => ?_) keepE)))
  dsimp only
  have v1 : ∀ x ∈ (scope.names.filter fun x => (x.2 == .local || x.2 == .cell) && x.1 != (".0" : Str)).reverse, x.2 = .local → Env.kindOf { cenv with scope := relabel scope env } x.1 = some .local :=
    fun x hx hl => lookup_relabel_local (c5 x (List.mem_filter.mp (List.mem_reverse.mp hx)).1 hl)
  refine wpAny_holding (wpAny_bind (wpAny_attempt (wpAny_holding (wpAny_run (codeAny_mono k4 fun r t5 hr => ?_)))))
  cases r with
  | ok f =>
    cases use with
    | none =>
      obtain ⟨m, hn, hr⟩ := hr
      refine wpAny_bind (wpAny_holding (wpAny_comp_letGo (cenv := { cenv with scope := relabel scope env }) c4 _ t5 m v1 hn fun h' m' _ sb => ?_))
      exact wpAny_pure (hr h' sb)
    | some u =>
      have v2 : ∀ x ∈ (scope.names.filter fun x => (x.2 == .local || x.2 == .cell) && x.1 != (".0" : Str)).reverse.drop 1 ++ (scope.names.filter fun x => (x.2 == .local || x.2 == .cell) && x.1 != (".0" : Str)).reverse.take 1,
          x.2 = .local → Env.kindOf { cenv with scope := relabel scope env } x.1 = some .local := fun x hx hl => by
        rcases List.mem_append.mp hx with z | z
        · exact v1 x (List.mem_of_mem_drop z) hl
        · exact v1 x (List.mem_of_mem_take z) hl
      refine wpAny_bind (wpAny_rule (wpAny_bind (wpAny_holding (wpAny_mono hr (fun _ t6 z => ?_) keepE))))
      obtain ⟨m, hn, z⟩ := z
      refine wpAny_bind (wpAny_comp_letGo (cenv := { cenv with scope := relabel scope env }) c4 _ t6 m v2 hn fun h' m' _ sb => ?_)
      exact wpAny_pure (z h' sb)
  | error x =>
    obtain ⟨m, hn, hr⟩ := hr
    refine wpAny_bind (wpAny_holding (wpAny_comp_letGo (cenv := { cenv with scope := relabel scope env }) c4 _ t5 m v1 hn fun h' m' _ sb => ?_))
    exact wpAny_mono (hr h' sb) (fun _ _ z => z.elim) keepE
end
theorem note_frame {e : Value} {env env' : Env} (h : env.frame = env'.frame) : noteFrame e env = noteFrame e env' := by
  unfold noteFrame PySem.frameOf
  rw [h]
theorem ff_but {base base' h h' : Heap} : ∀ {l : List Env}, h.FunFrames base l → (∀ L ∈ frs l, ∀ o, h.get? L = some o → h'.get? L = some o) → (∀ L ∈ frs l, base'.get? L = none) → h'.FunFrames base' l
  | [], _, _, _ => trivial
  | env :: l, z, k, n => by
    obtain ⟨hk, ⟨L, o, hf, _, ho, hd⟩, hr⟩ := z
    have hm : L ∈ frs (env :: l) := List.mem_filterMap.mpr ⟨env, List.mem_cons_self, hf⟩
    refine ⟨hk, ⟨L, o, hf, n L hm, k L hm o ho, hd⟩, ff_but hr (fun b hb => k b ?_) fun b hb => n b ?_⟩
    · obtain ⟨e, he, q⟩ := List.mem_filterMap.mp hb
      exact List.mem_filterMap.mpr ⟨e, List.mem_cons_of_mem _ he, q⟩
    · obtain ⟨e, he, q⟩ := List.mem_filterMap.mp hb
      exact List.mem_filterMap.mpr ⟨e, List.mem_cons_of_mem _ he, q⟩
/-- the exception goes through the block's end: noted, the block's names let go, on its way again -/
theorem air_out {X : Cx} {Eb : XK} {C : Addr} {ce ce' : Env} {u : Value} {s' : Shared} {m : Str → Option Value} {use : Option (Value → Sem Unit)} {Qf : Value → Shared → Prop} {acc : Value} {scope : Scope} {E₁ : Value → Shared → Prop}
    (hs : X.stack = X.env :: X.outer) (hf : X.env.frame = some X.env.locals) (tk : Takes X (fun cls d _ H => Eb cls d H)) (hce : ce.frame = X.env.frame) (hce' : ce'.frame = X.env.frame) (hL : ce'.locals = C)
    (hC : C ∉ frs X.stack) (c1 : C ≠ X.env.locals) (c2 : C ∈ X.ex ∨ X.s_0.heap.objs.size ≤ C) (c3 : ∀ x c, X.env.cells.lookup x = some c → c ≠ C) (c4 : ∀ p ∈ X.pn, p.1 ≠ C)
    (x : XE X (fun cls d _ H => Eb cls d H ∧ H C = none) u s') (hn : s'.heap.Ns C m) :
    wpAny (model X.prog X.w) X.A (noteFrame u ce) (fun _ s'' => outP (model X.prog X.w) X.A X.xe use Qf acc scope X.env ce' (.error u) s'') E₁ s' := by
  obtain ⟨a, B, sI, pins, σ, H, cls, d, rfl, I, nb, up, sky, na, os, ag, w, wC⟩ := x
  have hfr : X.A.frames = some (X.env :: X.outer) := by rw [I.ok.frames, hs]
  rw [note_frame hce]
  have fin : ∀ h1, HandSPX.HeldZ B X.stack a (Zc cls d) X.env.locals h1 → s'.heap.UpToSlots h1 → outP (model X.prog X.w) X.A X.xe use Qf acc scope X.env ce' (.error (.ref a)) { s' with heap := h1 } := fun h1 hh u1 => by
    obtain ⟨oC, es, ep, eC, dC, kC⟩ := id hn
    obtain ⟨sl, eC1⟩ := u1 C oC eC (fun vs z => by rw [dC] at z; cases z)
    refine ⟨m, ⟨{ oC with slots := sl }, es, ep, by rw [hL]; exact eC1, dC, kC⟩, fun h2 sb => ?_⟩
    rw [hL] at sb
    replace sb : Heap.SameBut C h1 h2 := sb
    obtain ⟨st1, en1, ff1, oe, vs, Tr, oT, ts, he, hz, hd, hv, nT, hTe, hT, hdT, h3⟩ := hh
    have aC : a ≠ C := fun z => by
      rw [z, eC1] at he
      have := Option.some.inj he
      rw [← this] at hd
      exact absurd hd (by show oC.data ≠ _; rw [dC]; intro y; cases y)
    have tC : Tr ≠ C := fun z => by
      rw [z, eC1] at hT
      have := Option.some.inj hT
      rw [← this] at hdT
      exact absurd hdT (by show oC.data ≠ _; rw [dC]; intro y; cases y)
    -- the ground without the block's names
    have B1 : ∀ b o, (PySem.W.hideAll B [C]).get? b = some o → b ≠ C ∧ B.get? b = some o := fun b o e => by
      refine ⟨fun z => ?_, PySem.W.of_hideAll _ e⟩
      rw [PySem.W.hideAll_none [C] (by simp [z])] at e
      cases e
    have B2 : ∀ b, B.get? b = none → (PySem.W.hideAll B [C]).get? b = none := fun b e => by
      cases q : (PySem.W.hideAll B [C]).get? b with
      | none => rfl
      | some o =>
        rw [(B1 b o q).2] at e
        cases e
    have held : HandSPX.HeldZ (PySem.W.hideAll B [C]) X.stack a (Zc cls d) X.env.locals h2 := by
      refine ⟨fun b o e => ?_, B2 _ en1, ?_, oe, vs, Tr, oT, ts, ?_, hz, hd, hv, B2 _ nT, hTe, ?_, hdT, h3⟩
      · obtain ⟨n, e⟩ := B1 b o e
        exact (sb.2 b n).trans (st1 b o e)
      · refine ff_but ff1 (fun L hm o e => ?_) fun L hm => ?_
        · exact (sb.2 L (fun z => hC (by rw [← z]; exact hm))).trans e
        · exact B2 _ (ff1.mem hm).1
      · exact (sb.2 a aC).trans he
      · exact (sb.2 Tr tC).trans hT
    have I2 : L2.Inv X [] σ H { sI with heap := PySem.W.hideAll sI.heap [C] } :=
      Inv.turned (t' := sI.toks) (it := C) (Inv.unpinned (pins := []) (pl := pins) (by simpa using I)) (fun b o n e => PySem.W.hideAll_get _ e (by simpa using n)) wC c1 c2 c3 (by simpa using c4)
    unfold PySem.passOn
    refine wpAny_bind (wpAny_field ((sb.2 a aC).trans he) hd hv ?_)
    rw [if_neg (show ¬ ((Value.ref Tr == Value.none) = true) from by simp)]
    refine wpAny_bind ?_
    rw [show ({ ce' with scope := relabel scope X.env } : Env).frame = some X.env.locals from hce'.trans hf]
    refine HandSPX.setFlight_onZ held fun h4 hh4 u4 => wpAny_throw ?_
    refine tk _ _ ⟨a, PySem.W.hideAll B [C], { sI with heap := PySem.W.hideAll sI.heap [C] }, [], σ, H, cls, d, rfl, I2, fun b o e hb => ?_, fun b o e hnf => ?_, .inr (.inr hh4), na, os, ag, w⟩
    · have e1 : sI.heap.get? b = some o := PySem.W.of_hideAll _ e
      refine PySem.W.hideAll_get _ (nb b o e1 hb) (fun z => ?_)
      have z : b ∈ [C] := z
      rw [PySem.W.hideAll_none [C] z] at e
      cases e
    · have e1 : sI.heap.get? b = some o := PySem.W.of_hideAll _ e
      have n1 : b ≠ C := fun z => by
        rw [PySem.W.hideAll_none [C] (by simp [z])] at e
        cases e
      obtain ⟨s1, e2⟩ := (up.trans u1) b o e1 hnf
      obtain ⟨s2, e3⟩ := u4 b _ ((sb.2 b n1).trans e2) hnf
      exact ⟨s2, e3⟩
  rw [hs] at sky fin
  rcases sky with ⟨hB, hen, hl, oe, vs, he, hz, hd, h1⟩ | fl | hd
  · exact HandSPX.look_newZ Zc.steady hfr hl hf he hB hen hd h1 hz fin
  · exact HandSPX.looks_onZ Zc.steady hfr hf fl fin
  · exact HandSPX.againZ hf hd.2.2.2 (fin s'.heap hd (Heap.UpToSlots.refl _))
abbrev wx (X : Cx) (xe : Value → Shared → Prop) : Cx := { X with xe := xe }
theorem inv_wx {X : Cx} {pins : List (Addr × Obj)} {σ : L2.St} {H : Hp} {s : Shared} (I : L2.Inv X pins σ H s) (xe : Value → Shared → Prop) : L2.Inv (wx X xe) pins σ H s :=
  ⟨⟨I.ok.mod, I.ok.kind, I.ok.glob, I.ok.blt, I.ok.above, I.ok.inj, I.ok.has, I.ok.cab, I.ok.hd, I.ok.frames, I.ok.stk, I.ok.exf, I.ok.bs, I.ok.bsz, I.ok.noex, I.ok.exfs, I.ok.funs, I.ok.frf⟩,
   I.os, I.bare, I.base, I.loc, I.cell, I.free, I.freeC, I.pin, I.hok, I.len⟩
/-- a turn's context: the block's, what is let out by a call goes to xe -/
abbrev bx (X : Cx) (t : Shared) (G : Hp) (scope : Scope) (ce : Env) (fp : List Addr) (xe : Value → Shared → Prop) : Cx := wx (X.blk t G scope ce fp) xe
section
variable {X : Cx}
theorem ps_setLcX {Eb : XK} {i : Nat} {y : Str} {py : Pos} {elt tg iter : Expr} {ifs : List Expr} {scope : Scope} {own : List (Str × Nat)} {pos spos : Pos} {wi : TI} {g : TG} {tt : TT} {te : TE}
    (hs : X.stack = X.env :: X.outer) (hf : X.env.frame = some X.env.locals) (tk : Takes X (fun cls d _ H => Eb cls d H)) (hc : X.calm = true) (hN : X.N.Nodup) (hy : X.N[i]? = some y) (hyl : X.env.scope.names.lookup y = some .local)
    (hsw : swapsWith (.ListComp elt [⟨tg, iter, ifs, 0⟩] scope pos) (some (.Name y py)) spos.line X.env = pure true) (hi : PI X tg iter wi) (ok : BlkOk X.N X.env.scope scope own)
    (hg : ∀ t G C cl fp xe, PG (bx X t G scope (compEnvC scope cl C X.env) fp xe) tg g) (ht : ∀ t G C cl fp xe, PTs (bx X t G scope (compEnvC scope cl C X.env) fp xe) ifs tt)
    (he : ∀ t G C cl fp xe, Passes (L2.CX X.prog X.w) (bx X t G scope (compEnvC scope cl C X.env) fp xe) Eb → PE (bx X t G scope (compEnvC scope cl C X.env) fp xe) elt te)
    (hfold : ∀ x, foldedSetIterable iter X.env x = pure x := by intro _; rfl) :
    PS X (.Assign [.Name y py] (.ListComp elt [⟨tg, iter, ifs, 0⟩] scope pos) spos) (tAsg (tLc wi g tt te (own.map (·.2))) (gName i)) := by
  refine ⟨fun pins s σ H D0 I h => ?_⟩
  rw [exec_Assign_Name_used _ _ _ _ hsw]
  refine wpAny_bind (wpAny_standAt (wpAny_bind ?_))
  show wpAny _ X.A (do
    let _ ← comprehension (.ListComp elt [⟨tg, iter, ifs, 0⟩] scope pos) scope X.env (firstIterPos [⟨tg, iter, ifs, 0⟩] pos) (newList []) false (eval iter X.env) (some (assign (.Name y py) X.env))) _ _ s
  replace h : tLc wi g tt te (own.map (·.2)) σ H fun x H1 => gName i x σ H1 D0.nx := h
  refine wpAny_bind (thn (Q := fun _ t => SP X pins D0 .next t) ?_ fun _ t hq => wpAny_pure (wpAny_pure hq))
  have free_ : ∀ y ∈ scope.names, y.2 = .free → ∃ c, X.env.cells.lookup y.1 = some c := fun y hy e => by
    rcases ok.free y hy e with k | k
    · exact I.ok.has _ (.inl k)
    · exact I.ok.has _ (.inr k)
  refine comp_x rfl hfold (closure_ok free_) ok.kind (fun y hy e => by rw [ok.uniq y hy, e]) (thn (hi.run pins s σ H _ I h) fun xv t1 hx => thn hx fun itv t2 h2 => ?_)
  obtain ⟨it, fp, tn, J, G2, e, I2, T, st2, f2, q⟩ := h2
  subst e
  refine wpAny_newObj_type (newEnv_comp ?_) (Nat.zero_le _)
  generalize hD : t2.heap.objs.size = D
  obtain ⟨W, ⟨m0, w0⟩, turn⟩ := q D (I2.hok.fresh (Nat.le_of_eq hD))
  generalize ht3 : ({ t2 with heap := t2.heap.push { cls := .type "list", data := .seq ([] : List Value).toArray } } : Shared) = t3
  have h3 : t3.heap = t2.heap.push { cls := .type "list", data := .seq ([] : List Value).toArray } := by rw [← ht3]
  have I3 : L2.Inv X pins σ (upd G2 D (.lst [])) t3 := by
    rw [← ht3]
    refine I2.laid (t' := t2.toks) (fun b o e => Heap.get?_push_of_some _ e) (Nat.le_of_eq hD) ⟨Nat.zero_le _, [], 0, .nil, by rw [← hD]; exact Heap.get?_push_size _ rfl⟩
  have lt2 : ∀ b ∈ fp, b < t2.heap.objs.size := fun b hb => by
    obtain ⟨o, e, _⟩ := T.obj _ _ st2 b hb
    exact Heap.lt_size e
  have f3 : ∀ b ∈ fp, FpOk X pins (upd G2 D (.lst [])) b ∧ b < t3.heap.objs.size := fun b hb => by
    refine ⟨⟨?_, (f2 b hb).2⟩, by rw [h3, Heap.size_push]; exact Nat.lt_succ_of_lt (lt2 b hb)⟩
    rw [upd_ne (by rw [← hD]; exact Nat.ne_of_lt (lt2 b hb))]
    exact (f2 b hb).1
  have st3 : tn 0 t3.heap := T.keep _ _ _ st2 fun b _ o e => by
    rw [h3]
    exact Heap.get?_push_of_some _ e
  have I4 := block_start I3 ok hN f3
  have fp0 : ∀ b ∈ fp, (upd G2 D (.lst [])) b = none := fun b hb => (f3 b hb).1.1
  show codeAny _ _ (.compStart (.ListComp elt [⟨tg, iter, ifs, 0⟩] scope pos) 0 (.ref it) (.ref D)
    (compEnvC scope (cellsFrom (t3.heap.objs.size + 1) scope.names (cloFrom X.env.cells scope.names [])) t3.heap.objs.size X.env)) (outP (model X.prog X.w) X.A X.xe _ _ (.ref D) scope X.env _) _
  generalize hR : outP (model X.prog X.w) X.A X.xe (some (assign (.Name y py) X.env)) (fun (_ : Value) (t : Shared) => SP X pins D0 .next t) (.ref D) scope X.env
    (newEnv scope t3.heap.objs.size X.env.globals (cellsFrom (t3.heap.objs.size + 1) scope.names (cloFrom X.env.cells scope.names [])) X.env.qual none .none (some X.env) builtinsNs) = R
  have pg := fun xe => hg t3 (upd G2 D (.lst [])) t3.heap.objs.size (cellsFrom (t3.heap.objs.size + 1) scope.names (cloFrom X.env.cells scope.names [])) fp xe
  have pt := fun xe => ht t3 (upd G2 D (.lst [])) t3.heap.objs.size (cellsFrom (t3.heap.objs.size + 1) scope.names (cloFrom X.env.cells scope.names [])) fp xe
  have pe := fun xe => he t3 (upd G2 D (.lst [])) t3.heap.objs.size (cellsFrom (t3.heap.objs.size + 1) scope.names (cloFrom X.env.cells scope.names [])) fp xe
  generalize hce : compEnvC scope (cellsFrom (t3.heap.objs.size + 1) scope.names (cloFrom X.env.cells scope.names [])) t3.heap.objs.size X.env = ce at I4 pg pt pe ⊢
  have ceL : ce.locals = t3.heap.objs.size := by
    subst hce
    rfl
  have ceF : ce.frame = X.env.frame := by
    subst hce
    rfl
  generalize hG3 : upd G2 D (.lst []) = G3 at I3 I4 pg pt pe w0 fp0 f3
  generalize hE : notedBy (model X.prog X.w) X.A ce (fun e t => R (.error e) t) = EE
  replace pg := pg EE
  replace pt := pt EE
  replace pe := pe EE
  have backX : ∀ {pins' : List (Addr × Obj)} {σ' : L2.St} {G' : Hp} {t' : Shared}, L2.Inv (bx X t3 G3 scope ce fp EE) pins' σ' G' t' → L2.Inv X pins σ G' t' := fun {pins' σ' G' t'} I' =>
    I3.call' (ch := fp) I'.os I'.base I'.hok I'.bare fun b hb => ⟨(f3 b hb).1.2.2.2.1, (f3 b hb).1.2.1, (f3 b hb).1.2.2.2.2.1, (f3 b hb).1.2.2.2.2.2⟩
  have noC : ∀ {pins' : List (Addr × Obj)} {σ' : L2.St} {G' : Hp} {t' : Shared}, L2.Inv (bx X t3 G3 scope ce fp EE) pins' σ' G' t' → FpOk X pins G' t3.heap.objs.size := fun {pins' σ' G' t'} I' => by
    have z : G' ce.locals = none := I'.free
    rw [ceL] at z
    exact I3.fpOk (Nat.le_refl _) z
  have CS : t3.heap.objs.size ∉ frs X.stack := fun hm => by
    have f := noC (inv_wx I4 EE)
    rcases List.mem_cons.mp (I3.stkSub _ hm) with z | z
    · exact f.2.1 z
    · exact f.2.2.1 z
  have thru : Passes (L2.CX X.prog X.w) (bx X t3 G3 scope ce fp EE) Eb := by
    intro pins' σ' G' t u t' I' c
    obtain ⟨a, B, H2, cls, d, rfl, fl, hok, ub, na, os, ag, w⟩ := c
    obtain ⟨m, hn, _⟩ := I'.loc
    replace hn : t.heap.Ns ce.locals m := hn
    rw [ceL] at hn
    have f := noC I'
    obtain ⟨oC, es, ep, eC, dC, kC⟩ := id hn
    have hB : B.get? t3.heap.objs.size = some oC := ub.keep _ oC eC f.1 CS
    have c' : L2.CX X.prog X.w X.stack G' t (fun cls d H => Eb cls d H ∧ H t3.heap.objs.size = none) (.ref a) t' := ⟨a, B, H2, cls, d, rfl, fl, hok, ub, na, os, ag, w, ub.free _ oC eC f.1⟩
    have x := XE.of_call (W := fun cls d _ H => Eb cls d H ∧ H t3.heap.objs.size = none) (backX I') (fun _ _ _ z => z) c'
    show EE (.ref a) t'
    rw [← hE, ← hR]
    exact air_out (m := m) hs hf tk ceF rfl rfl CS f.2.1 f.2.2.2.1 f.2.2.2.2.1 (fun p hp => f.2.2.2.2.2 p (List.mem_append_left _ hp)) x ⟨oC, es, ep, fl.1 _ _ hB, dC, kC⟩
  replace pe := pe thru
  generalize ht4 : ({ t3 with heap := pushCells (t3.heap.push { cls := .type "dict", data := .dict #[] }) scope.names } : Shared) = t4 at I4 ⊢
  have st4 : tn 0 t4.heap := T.keep _ _ _ st3 fun b _ o e => by
    rw [← ht4]
    exact pushCells_keeps _ _ _ _ (Heap.get?_push_of_some _ e)
  have still : ∀ {σ' : L2.St} {G' : Hp} {t' : Shared}, L2.Inv (bx X t3 G3 scope ce fp EE) [] σ' G' t' → (∀ b ∈ fp, G' b = none) → ∀ b ∈ fp, FpOk (bx X t3 G3 scope ce fp EE) [] G' b := fun {σ' G' t'} I' hn b hb =>
    ⟨hn b hb, (I'.ok.exf b hb).1, I'.ok.exfs b hb, .inl hb, fun x c e => (I'.ok.exf b hb).2 x c e, fun p hp => by simp at hp⟩
  have loop : codeAny (model X.prog X.w) X.A (.compLoop (.ListComp elt [⟨tg, iter, ifs, 0⟩] scope pos) 0 (.ref it) (.ref D) ce) R t4 := by
    refine compLoop_any (fun n t => ∃ i G', L2.Inv (bx X t3 G3 scope ce fp EE) [] (wipe σ (own.map (·.2))) G' t ∧ tn i t.heap ∧ (∀ b ∈ fp, G' b = none) ∧ W i n G') ?_ m0 ⟨0, G3, inv_wx I4 EE, st4, fp0, w0⟩
    rintro n t5 ⟨j, G5, I5, st5, n5, w5⟩
    show wpAny _ _ _ _ (notedBy (model X.prog X.w) X.A ce fun e t => R (.error e) t) _
    rw [hE]
    rcases turn j n G5 w5 with ⟨stop, qq⟩ | ⟨go, Nx, hNx, step⟩
    · refine thnF (T.done (bx X t3 G3 scope ce fp EE) rfl rfl rfl hc j [] t5 _ G5 (fun _ _ => False) I5 (still I5 n5) st5 stop) fun r t6 ⟨hr, I6⟩ => ?_
      subst hr
      have I7 := backX I6
      have f := noC I6
      obtain ⟨m, hn, _⟩ := I6.loc
      replace hn : t6.heap.Ns ce.locals m := hn
      rw [ceL] at hn
      show R (.ok .next) t6
      rw [← hR]
      show wpAny _ _ (assign (.Name y py) X.env (.ref D)) _ _ _
      refine wpAny_assign_Name (store_ok2 (v := V.ref D) I7 hN hy (.inl hyl) rfl (fun t8 I8 ⟨a, sb, ha⟩ => ?_) (.inr hyl))
      obtain ⟨f0, f1, _, f3', f4, f5⟩ := f
      have haC : t3.heap.objs.size ≠ a := by
        rcases ha with z | z
        · rw [z]
          exact f1
        · exact fun e => f4 y a z e.symm
      exact ⟨m, hn.sameBut sb haC, fun h9 sb9 => ⟨_, G5, I8.turned (t' := t8.toks) (fun b o hb e => (sb9.2 b hb).trans e) f0 f1 f3' f4 f5, qq⟩⟩
    · refine thnF (T.item (bx X t3 G3 scope ce fp EE) rfl rfl rfl hc j [] t5 _ G5 (fun _ _ => False) I5 (still I5 n5) st5 go) fun r t6 ⟨u, hr, h6⟩ => ?_
      subst hr
      refine thnF h6 fun _ t7 ⟨x, G7, I7, r7, y7, st7, n7⟩ => ?_
      have I7' := I7.pinned (still I7 n7) (T.obj _ _ st7)
      refine thn (pg.run _ t7 _ G7 x u _ I7' r7 (step x G7 y7)) fun _ t8 ⟨σ8, G8, I8, hw8, q8⟩ => ?_
      refine thn (pt.run _ t8 σ8 G8 _ I8 q8) fun b t9 ⟨G9, I9, q9⟩ => ?_
      have fin : ∀ {t' : Shared} {G' : Hp}, L2.Inv (bx X t3 G3 scope ce fp EE) ([] ++ pinsAt fp t7.heap) σ8 G' t' → Nx G' → ∃ m, m < n ∧ ∃ i G', L2.Inv (bx X t3 G3 scope ce fp EE) [] (wipe σ (own.map (·.2))) G' t' ∧ tn i t'.heap ∧ (∀ b ∈ fp, G' b = none) ∧ W i m G' := fun {t' G'} I' nx => by
        obtain ⟨m', hm, w'⟩ := hNx G' nx
        have stay : ∀ b ∈ fp, ∀ o, t7.heap.get? b = some o → t'.heap.get? b = some o ∧ G' b = none := fun b hb o e =>
          have z := I'.pin (b, o) (List.mem_append_right _ (List.mem_append_right _ (mem_pinsAt hb e)))
          ⟨z.1, z.2.1⟩
        refine ⟨m', hm, j + 1, G', (I'.unpinned (pins := [])).weak (by rw [← hw8, wipe_length]) (fun k v e => ?_), T.keep _ _ _ st7 fun b hb o e => (stay b hb o e).1, fun b hb => ?_, w'⟩
        · rw [← hw8] at e
          exact (wipe_some e).1
        · obtain ⟨o, e, _⟩ := T.obj _ _ st7 b hb
          exact (stay b hb o e).2
      cases b with
      | false =>
        simp only [Bool.false_eq_true, if_false] at q9 ⊢
        exact fin I9 q9
      | true =>
        simp only [if_true] at q9 ⊢
        refine thn (pe.run _ t9 σ8 G9 _ I9 q9) fun z t10 ⟨yv, G10, I10, r10, acc, hD10, hz10, nx⟩ => ?_
        exact app_ok (X := bx X t3 G3 scope ce fp EE) I10 hD10 hz10 r10 fun t11 I11 => fin I11 nx
  exact codeAny_compStart_list loop (T.self X.A 0 _ _ _ st4 loop)
end
end HK
set_option Elab.async false
set_option linter.all false
set_option maxRecDepth 100000
set_option maxHeartbeats 1000000
namespace HK
open PySem PySem.Spec PyProof.Rows L2 SX
theorem progLoop_app {books : Int} : ∀ (a b : List Line), progLoop books (a ++ b) = match progLoop books a with
    | .error e => .error e
    | .ok p => match progLoop books b with
      | .error e => .error e
      | .ok q => .ok (p ++ q)
  | [], b => by
    show progLoop books b = match progLoop books b with
      | .error e => .error e
      | .ok q => .ok ([] ++ q)
    cases progLoop books b <;> rfl
  | (ws, at_) :: a, b => by
    have ih := progLoop_app (books := books) a b
    rw [List.cons_append, progLoop, progLoop, ih]
    cases instrL books ws at_ with
    | error e => rfl
    | ok i =>
      cases progLoop books a with
      | error e => rfl
      | ok p =>
        simp only
        cases progLoop books b <;> rfl
theorem progLoop_one {books : Int} {ws : List (List Nat)} {at_ : Int} : progLoop books [(ws, at_)] = match instrL books ws at_ with
    | .error e => .error e
    | .ok i => .ok [i] := by
  unfold progLoop
  cases instrL books ws at_ <;> rfl
theorem sqT_hide {K : PySem.W.Frag} {H : Hp} {D p : Addr} {ys xs : List V} (hD : H D = some (.lst ys)) (h : SqT K H p xs) : SqT K (hid D H) p xs := by
  rcases h with h | h
  · have n : p ≠ D := fun z => by
      rw [z] at h
      rcases h with h | ⟨o, h⟩ <;> (rw [hD] at h; cases h)
    rcases h with h | ⟨o, h⟩
    · exact .inl (.inl (by rw [hid_ne n]; exact h))
    · exact .inl (.inr ⟨o, by rw [hid_ne n]; exact h⟩)
  · exact .inr h
theorem Dp.ins_mk {K : PySem.W.Frag} {H : Hp} {a : Addr} {i : Ins} (h : SqT K H a (.str (S i.1) :: i.2.map V.int)) : Dp K H (.ref a) (insD i) := .tup h (.cons (.str _) (DpAll.ints _))
section
variable {P : Program} {w : World} {K : PySem.W.Frag} {mg : Str → Option Value} {base : Heap} {d : Ad}
def spReadProg (K : PySem.W.Frag) (d : Ad) : Sp := fun vs H Q E => ∃ (books : Int) (t : List Nat), vs = [.int books, .str (S t)] ∧ 1 ≤ books ∧ books ≤ 6 ∧ t.length ≤ 5000 ∧ Tb d.T H ∧ Out d H E (readProgL books t) fun p => ∀ H' v, Go d.T H H' → Dp K H' v (progD p) → Q v H'
theorem dk_read_program (T : Tx K mg d) (B : Tbs base mg d) : DK P w K mg base (L2.CX P w) 9 "read_program" (spReadProg K d) := by
  have d_need_number : DK P w K mg base CX0 2 "need_number" spNeedNumber := dk_need_number T
  have d_need_text : DK P w K mg base (L2.CX P w) 2 "need_text" (spNeedText d) := dk_need_text T
  have d_lines_in : DK P w K mg base CX0 2 "lines_in" (spLinesIn K) := dk_lines_in T
  have d_instruction_in : DK P w K mg base (L2.CX P w) 8 "instruction_in" (spInsIn K d) := dk_instruction_in T B
  refine T.d_read_program.dkX sc_read_program (fun vs H Q E h => ?_) fun f cdv A outer s H vs Q E hr h => ?_
  · obtain ⟨_, _, rfl, _⟩ := h
    rfl
  · obtain ⟨books, t, rfl, hb1, hb6, hl, tb, o⟩ := h
    refine ⟨_, (pss_cons (ps_expr (pe_d d_need_number hr (by decide) rfl pass0 (pa_cons (pv 0) (pa_cons pe_int (pa_cons (pe_op op_sub (C8.pe_gc rfl T.c_MOST_PLACES) pe_int) pa_nil)))))
    (pss_cons (ps_expr (pe_d d_need_text hr (by decide) rfl passE (pa_cons (pv 1) pa_nil)))
    (pss_cons (ps_set (i := 2) sc_read_program.nd rfl (Or.inl rfl) (pe_d d_lines_in hr (by decide) rfl pass0 (pa_cons (pv 1) pa_nil)))
    (pss_cons (ps_if (pt_not (pt_truthK K rfl (pv 2) (by intro _; rfl)))
      (pss_one (ps_bad T hr (by decide) rfl rfl (takes_of rfl rfl rfl rfl) (pa_cons (pe_op op_add (pe_callB (call_lenK K rfl) (by rfl) T.f_len (by decide +kernel) (pa_cons (pe_split (pv 1) pe_str) pa_nil)) pe_int) (pa_cons pe_int pa_nil))))
      pss_nil)
    (pss_cons (ps_if (pt_cmpR op_gt (pe_callB (call_lenK K rfl) (by rfl) T.f_len (by decide +kernel) (pa_cons (pv 2) pa_nil)) (C8.pe_gc rfl T.c_MOST_KEPT) (nomark _))
      (pss_one (ps_bad T hr (by decide) rfl rfl (takes_of rfl rfl rfl rfl) (pa_cons (pe_ix (ix_seqK K rfl) (pe_ix (ix_seqK K rfl) (pv 2) (C8.pe_gc rfl T.c_MOST_KEPT) (fun _ _ => rfl)) pe_int (fun _ _ => rfl)) (pa_cons pe_int pa_nil))))
      pss_nil)
    (pss_cons (ps_setLcX (i := 3) (own := [("words", 6), ("at", 7)]) rfl rfl (takes_of rfl rfl rfl rfl) (by rfl) sc_read_program.nd rfl rfl (sw_true rfl rfl rfl (by decide +kernel)) (pi_listK K rfl (pv 2)) (blkOk_by (own := [("words", 6), ("at", 7)]) (N := n_read_program) (sc := defScope s_read_program) (by decide +kernel)) (fun _ _ _ _ _ _ => by exact (pg_tupK K rfl (n := 2) (by rfl) (pgs_cons (pg_name (i := 6) sc_read_program.nd rfl (Or.inl rfl)) (pgs_cons (pg_name (i := 7) sc_read_program.nd rfl (Or.inl rfl)) pgs_nil)))) (fun _ _ _ _ _ _ => by exact pts_nil) (fun _ _ _ _ _ _ hp => by exact (pe_d d_instruction_in hr (by decide) rfl hp (pa_cons (pv 6) (pa_cons (pv 0) (pa_cons (pv 7) pa_nil))))))
    (pss_cons (ps_for (passes_of rfl) rfl (pi_zipK K rfl (by rfl) T.f_zip (pa_cons (pv 3) (pa_cons (pv 2) pa_nil))) (pg_tupK K rfl (n := 2) (by rfl) (pgs_cons (pg_name (i := 4) sc_read_program.nd rfl (Or.inl rfl)) (pgs_cons (pg_name (i := 5) sc_read_program.nd rfl (Or.inl rfl)) pgs_nil)))
      (pss_one (ps_if (PW.pt (pw_and (pt_cmpR (op_inK K rfl) (pe_ix (ix_seqK K rfl) (pv 4) pe_int (fun _ _ => rfl)) (pe_tup (pa_cons pe_str (pa_cons pe_str pa_nil))) rfl) (pw_and1 (pt_cmpR op_gt (pe_ix (ix_seqK K rfl) (pv 4) pe_int (fun _ _ => rfl)) (pe_callB (call_lenK K rfl) (by rfl) T.f_len (by decide +kernel) (pa_cons (pv 3) pa_nil)) (nomark _)))))
        (pss_one (ps_bad T hr (by decide) rfl rfl (takes_of rfl rfl rfl rfl) (pa_cons (pe_ix (ix_seqK K rfl) (pv 5) pe_int (fun _ _ => rfl)) (pa_cons pe_int pa_nil))))
        pss_nil)))
    (pss_one (ps_ret (pe_callTy (call_tupK K rfl) (by rfl) T.f_tuple (by decide +kernel) (pa_cons (pv 3) pa_nil))))))))))), ?_⟩
    refine ⟨_, rfl, _, _, rfl, rfl, books, 1, 6, rfl, hb1, hb6, ?_⟩
    refine ⟨_, rfl, Or.inl ⟨S t, rfl, ?_⟩⟩
    refine ⟨_, rfl, t, rfl, hl, fun H1 a xs s1 n1 h1 hx1 => ?_⟩
    have lok := lines_ok hl
    have llen : (linesL t).length ≤ 5001 := by
      have h1 := numbered_length_le (cutAt 10 t) 1
      have h2 := cutAt_length_le 10 t
      have h3 : (linesL t).length ≤ (cutAt 10 t).length := h1
      omega
    have g1 : Go d.T H H1 := Go.same tb s1
    have hx := Lines.go (go_unhid (t00 _) (by simp)) hx1
    have xlen : xs.length = (linesL t).length := hx.length
    refine ⟨_, rfl, !xs.isEmpty, Or.inl ⟨_, SqL.of h1, rfl⟩, ?_⟩
    unfold readProgL at o
    by_cases c0 : linesL t = []
    · rw [if_pos c0] at o
      have : xs = [] := List.length_eq_zero_iff.mp (by rw [xlen, c0]; rfl)
      subst this
      refine iteT ⟨_, rfl, ⟨_, rfl⟩, S t, _, rfl, rfl, by decide +kernel, by rw [S_len, sizeLine_eq]; omega, fun p np => ?_⟩
      rw [split_nl]
      have g2 := g1.then np (o := .lst (((cutAt 10 t).map S).map V.str))
      refine ⟨.ref p, (cutAt 10 t).length, rfl, Or.inl ⟨_, SqL.of upd_same, by simp⟩, _, _, rfl, rfl, finL t, 1, rfl, fun H3 dx s3 n3 x3 => ?_⟩
      exact o H3 dx (g2.trans (Go.same g2.t1 s3)) x3
    rw [if_neg c0] at o
    have hne : (!xs.isEmpty) = true := by
      cases xs with
      | nil =>
        exact absurd (List.length_eq_zero_iff.mp (by rw [← xlen]; rfl)) c0
      | cons a b => rfl
    rw [hne]
    refine iteF ⟨_, rfl, .ref a, xs.length, rfl, Or.inl ⟨_, SqL.of h1, rfl⟩, _, _, rfl, rfl, false, congrArg V.bl (decide_eq_false (by omega)), iteF ?_⟩
    refine ⟨_, rfl, a, rfl, ⟨_, SqL.of h1⟩, fun D nD => ?_⟩
    have nDH : H D = none := g1.free nD
    refine lc_acc (walk_list (xs := xs)) g1.t1 nD (fun H' g => g.sl (SqL.of h1)) yat_same (by omega) (fun i acc H' => ∃ ps, progLoop books ((linesL t).take i) = .ok ps ∧ DpAll K H' acc (ps.map insD)) (fun i acc H2 H3 g p => ?_) ⟨[], rfl, .nil⟩
      (fun i x H2 H3 acc Post hi go hD hacc hy gy hp => ?_) (fun H2 acc g2 e2 p2 _ => ?_)
    · obtain ⟨ps, e, q⟩ := p
      exact ⟨ps, e, DpAll.go g q⟩
    · obtain ⟨rfl, hxi⟩ := hy
      obtain ⟨ps, eps, hps⟩ := hacc
      obtain ⟨l, hli, hv⟩ := pd_get hx hxi
      obtain ⟨ws, at_⟩ := l
      have lk := lok _ (List.mem_of_getElem? hli)
      have hv3 := LineAt.go go hv
      obtain ⟨pl, wv, rfl, hpl, hw⟩ := hv3
      have et : (linesL t).take (i + 1) = (linesL t).take i ++ [(ws, at_)] := by
        rw [List.take_succ, hli]
        rfl
      have ed : linesL t = (linesL t).take (i + 1) ++ (linesL t).drop (i + 1) := (List.take_append_drop _ _).symm
      refine ⟨pl, _, rfl, hpl, rfl, _, _, rfl, _, _, rfl, rfl, rfl, ?_⟩
      refine yes_ ?_
      refine ⟨_, rfl, _, rfl, _, rfl, wv, ws, books, at_, rfl, hw, lk.1, lk.2, gy.t1, ?_⟩
      unfold Out
      cases ei : instrL books ws at_ with
      | error e =>
        have ee : progLoop books (linesL t) = .error e := by
          rw [ed, progLoop_app, et, progLoop_app, eps, progLoop_one, ei]
        rw [ee] at o
        exact fun H4 dx g4 x4 => o H4 dx ((g1.trans go).trans g4) x4
      | ok ins =>
        intro H4 v4 g4 hv4
        refine hp H4 (some v4) g4 ⟨ps ++ [ins], ?_, ?_⟩
        · rw [et, progLoop_app, eps, progLoop_one, ei]
        · rw [List.map_append]
          refine DpAll.append (DpAll.go (go_hid g4 (go.t1.no hD fun _ z => by cases z)) hps) (.cons ?_ .nil)
          have hD4 := g4.lst (gy.lst hD)
          obtain ⟨q, rfl, hq⟩ := Dp.ins_inv hv4
          exact Dp.ins_mk (sqT_hide hD4 hq)
    · obtain ⟨ps, eps, hps⟩ := p2
      rw [xlen, List.take_length] at eps
      rw [eps] at o
      simp only at o
      have plen : acc.length = ps.length := by
        have := DpAll.len hps
        simpa using this
      obtain ⟨pm, pv⟩ := progLoop_some (fun l h => (lok l h).1) eps
      have pll : ps.length = (linesL t).length := by
        have := congrArg List.length pm
        simpa using this.symm
      have g12 := g1.trans g2
      have ha2 := g2.lst h1
      have hx2 := Lines.go g2 hx
      refine ⟨_, rfl, _, rfl, D, a, acc, xs, rfl, SqL.of e2, SqL.of ha2, ?_⟩
      refine for_it (walk_zip (xs := acc) (ys := xs) (n := ps.length) (by omega)) (fun i σ H3 => ∃ w4 w5 : Option V, σ = [some (.int books), some (.str (S t)), some (.ref a), some (.ref D), w4, w5, none, none] ∧ Go d.T H2 H3 ∧
        badJump (ps.length : Int) ps (linesL t) = badJump (ps.length : Int) (ps.drop i) ((linesL t).drop i)) ⟨none, none, rfl, Go.refl g2.t1, rfl⟩ (fun i σ H3 _ h => ?_) ?_ ?_
      · obtain ⟨_, _, _, g, _⟩ := h
        exact ⟨g.sl (SqL.of e2), g.sl (SqL.of ha2)⟩
      · rintro i x σ H3 H4 hi ⟨w4, w5, rfl, g3, hbj⟩ ⟨tp, y, z, rfl, nt, rfl, k1, k2⟩
        have g4 : Go d.T H2 (upd H3 tp (.tup [y, z])) := g3.put (g3.free nt)
        replace k1 : acc[i]? = some y := k1
        replace k2 : xs[i]? = some z := k2
        obtain ⟨dd, e3, e4⟩ := DpAll.get' hps k1
        rw [List.getElem?_map] at e3
        obtain ⟨l, hli, hv⟩ := pd_get hx2 k2
        obtain ⟨ws, at_⟩ := l
        cases ei : ps[i]? with
        | none => rw [ei] at e3; cases e3
        | some ins =>
          rw [ei] at e3
          have e5 : dd = insD ins := (Option.some.inj e3).symm
          subst e5
          obtain ⟨b, rfl, hb⟩ := Dp.ins_inv (Dp.go g4 e4)
          have hv4 := LineAt.go g4 hv
          obtain ⟨pl, wv, rfl, hpl, _⟩ := hv4
          have hpi := (List.getElem?_eq_some_iff.mp ei)
          have hli' := (List.getElem?_eq_some_iff.mp hli)
          obtain ⟨hpi1, hpi2⟩ := hpi
          obtain ⟨hli1, hli2⟩ := hli'
          have ed1 : ps.drop i = ins :: ps.drop (i + 1) := by rw [List.drop_eq_getElem_cons hpi1, hpi2]
          have ed2 : (linesL t).drop i = (ws, at_) :: (linesL t).drop (i + 1) := by rw [List.drop_eq_getElem_cons hli1, hli2]
          rw [ed1, ed2, badJump] at hbj
          have vi := pv ins (List.mem_of_getElem? ei)
          refine ⟨tp, _, rfl, .inl (.inl upd_same), rfl, _, _, rfl, _, _, rfl, rfl, ?_⟩
          refine ⟨_, rfl, Or.inr (Or.inl ⟨b, _, 0, _, rfl, rfl, hb, at0, (show (2 : Nat) ≤ sizeLine by decide), fun p5 n5 => ?_⟩)⟩
          have g5 := g4.then n5 (o := .tup [.str "zero", .str "go"])
          have g45 := Go.new (o := .tup [.str "zero", .str "go"]) g4.t1 n5
          refine ⟨p5, _, rfl, Or.inr (.inl (.inl upd_same)), rfl, rfl, isJump ins.1, by rw [if_neg (by decide)]; exact congrArg V.bl (in_jump _), ?_⟩
          by_cases cj : isJump ins.1 = true
          · rw [cj]
            obtain ⟨tt, etl, h0, h6⟩ := isJump_vi vi cj
            have hat1 : atI (V.str (S ins.1) :: ins.2.map V.int) 1 = some (.int tt) := by
              rw [etl]
              rfl
            refine iteT ⟨_, rfl, Or.inr (Or.inl ⟨b, _, 1, _, rfl, rfl, g45.st hb, hat1, ?_⟩)⟩
            refine ⟨_, rfl, .ref D, acc.length, rfl, Or.inl ⟨_, g5.sl (SqL.of e2), rfl⟩, _, _, rfl, rfl, decide ((ps.length : Int) < tt), by rw [plen], ?_⟩
            by_cases cl : (ps.length : Int) < tt
            · rw [if_pos ⟨cj, by rw [etl]; exact cl⟩] at hbj
              rw [hbj] at o
              rw [decide_eq_true cl]
              refine iteT ⟨_, rfl, Or.inr (Or.inl ⟨pl, _, 1, _, rfl, rfl, g45.st hpl, rfl, at_, 2, rfl, fun H6 dx s6 n6 x6 => ?_⟩)⟩
              exact o H6 dx ((g12.trans g5).trans (Go.same g5.t1 s6)) x6
            · rw [if_neg (fun z => cl (by have := z.2; rw [etl] at this; exact this))] at hbj
              rw [decide_eq_false cl]
              exact iteF ⟨_, _, rfl, g5, hbj⟩
          · rw [show isJump ins.1 = false by simpa using cj]
            rw [if_neg (fun z => cj z.1)] at hbj
            exact iteF (iteF ⟨_, _, rfl, g5, hbj⟩)
      · rintro σ H3 ⟨w4, w5, rfl, g3, hbj⟩
        have en : badJump (ps.length : Int) ps (linesL t) = none := by
          rw [hbj, List.drop_eq_nil_of_le (Nat.le_refl _)]
          unfold badJump
          rfl
        rw [en] at o
        refine ⟨_, rfl, D, acc, rfl, Or.inl ⟨g3.sl (SqL.of e2), fun q nq => ?_⟩⟩
        have g4 := g3.then nq (o := .tup acc)
        exact o _ _ (g12.trans g4) (.tup (.inl (.inl upd_same)) (DpAll.go g4 hps))
end
end HK
set_option Elab.async false
set_option linter.all false
set_option maxRecDepth 100000
set_option maxHeartbeats 1000000
namespace HK
open PySem PySem.Spec PyProof.Rows L2 SX
/-! ### the law's row of draws: a list that changes -/
structure Scr where
  sc : Addr
  ns : List Int
def RowL (c : Scr) (H : Hp) (r : Addr) : Prop := ∃ idx seed rest : Int, H r = some (.lst [.ref c.sc, .int idx, .int seed, .int rest]) ∧ 0 ≤ idx
structure RowA (K : PySem.W.Frag) (c : Scr) (H : Hp) (r : Addr) : Prop where
  row : RowL c H r
  sq : SqL K (hid r H) c.sc (c.ns.map V.int)
  ne : c.sc ≠ r
  le : c.ns.length ≤ 63
structure Mv (c : Scr) (T : List Addr) (r : Addr) (H H' : Hp) : Prop where
  go : Go T (hid r H) (hid r H')
  row : RowL c H' r
section
variable {K : PySem.W.Frag} {c : Scr} {T : List Addr} {r : Addr} {H H1 H2 : Hp}
theorem RowL.no (h : RowL c H r) (t : Tb T H) : r ∉ T := by
  obtain ⟨_, _, _, h, _⟩ := h
  exact t.no h fun _ z => by cases z
theorem RowL.ne (h : RowL c H r) {D : Addr} (n : H D = none) : D ≠ r := fun z => by
  obtain ⟨_, _, _, h, _⟩ := h
  rw [z, h] at n
  cases n
theorem RowL.go (h : RowL c H r) (g : Go T H H1) : RowL c H1 r := by
  obtain ⟨i, s, e, h, h0⟩ := h
  exact ⟨i, s, e, g.lst h, h0⟩
theorem RowL.put (h : RowL c H r) {D : Addr} {o : HO} (n : D ≠ r) : RowL c (upd H D o) r := by
  obtain ⟨i, s, e, h, h0⟩ := h
  exact ⟨i, s, e, by rw [upd_ne (Ne.symm n)]; exact h, h0⟩
theorem Mv.of_go (h : RowL c H r) (g : Go T H H1) : Mv c T r H H1 := ⟨go_hid g (h.no g.t0), h.go g⟩
theorem Mv.trans (a : Mv c T r H H1) (b : Mv c T r H1 H2) : Mv c T r H H2 := ⟨a.go.trans b.go, b.row⟩
theorem Mv.tb (a : Mv c T r H H1) : Tb T H1 := tb_unhid a.go.t1
theorem Mv.tb0 (a : Mv c T r H H1) : Tb T H := tb_unhid a.go.t0
theorem Mv.of_eq (t : Tb T H) (h : RowL c H r) (e : hid r H1 = hid r H) (h1 : RowL c H1 r) : Mv c T r H H1 := ⟨by rw [e]; exact Go.refl (tb_hid t (h.no t)), h1⟩
theorem Mv.step (a : Mv c T r H H1) (g : Go T H1 H2) : Mv c T r H H2 := a.trans (Mv.of_go a.row g)
theorem Mv.eqs (a : Mv c T r H H1) (e : hid r H2 = hid r H1) (h : RowL c H2 r) : Mv c T r H H2 := a.trans (Mv.of_eq a.tb a.row e h)
theorem Mv.refl (t : Tb T H) (h : RowL c H r) : Mv c T r H H := Mv.of_go h (Go.refl t)
theorem RowA.mv (h : RowA K c H r) (m : Mv c T r H H1) : RowA K c H1 r := ⟨m.row, m.go.sl h.sq, h.ne, h.le⟩
theorem RowA.eqs (h : RowA K c H r) (e : hid r H1 = hid r H) (l : RowL c H1 r) : RowA K c H1 r := ⟨l, by rw [e]; exact h.sq, h.ne, h.le⟩
theorem hid_put {D : Addr} {o : HO} (n : D ≠ r) : hid r (upd H D o) = upd (hid r H) D o := by
  funext b
  unfold hid
  by_cases h : b = r
  · rw [if_pos h, upd_ne (by rw [h]; exact Ne.symm n)]
    exact (if_pos h).symm
  · rw [if_neg h]
    by_cases k : b = D
    · rw [k, upd_same, upd_same]
    · rw [upd_ne k, upd_ne k, if_neg h]
theorem Mv.put (a : Mv c T r H H1) {D : Addr} {o : HO} (n : H D = none) (hr : D ≠ r) : Mv c T r H (upd H1 D o) :=
  ⟨by rw [hid_put hr]; exact a.go.put (by rw [hid_ne hr]; exact n), a.row.put hr⟩
theorem Mv.free (a : Mv c T r H H1) {b : Addr} (n : H1 b = none) : H b = none := by
  have hb := a.row.ne n
  have := a.go.free (a := b) (by rw [hid_ne hb]; exact n)
  rwa [hid_ne hb] at this
theorem Mv.then (a : Mv c T r H H1) {b : Addr} {o : HO} (n : H1 b = none) : Mv c T r H (upd H1 b o) := a.put (a.free n) (a.row.ne n)
theorem Mv.lst (a : Mv c T r H H1) {b : Addr} {xs : List V} (n : b ≠ r) (h : H b = some (.lst xs)) : H1 b = some (.lst xs) := by
  have := a.go.lst (a := b) (xs := xs) (by rw [hid_ne n]; exact h)
  rwa [hid_ne n] at this
/-- what is known ahead of a draw, read behind it -/
theorem go_r : Go [] (hid r H) H := go_unhid (t00 _) (by simp)
theorem SqL.up {a : Addr} {xs : List V} (h : SqL K (hid r H) a xs) : SqL K H a xs := (go_r (r := r)).sl h
theorem SqT.up {a : Addr} {xs : List V} (h : SqT K (hid r H) a xs) : SqT K H a xs := (go_r (r := r)).st h
end
section
variable {P : Program} {w : World} {K : PySem.W.Frag} {mg : Str → Option Value} {base : Heap} {d : Ad}
theorem row_mk {H : Hp} {r : Addr} {c : Scr} {a b e : Int} (h0 : 0 ≤ a) : RowL c (upd H r (.lst [.ref c.sc, .int a, .int b, .int e])) r := ⟨a, b, e, upd_same, h0⟩
def spLTaken (K : PySem.W.Frag) : Sp := fun vs H Q _ => ∃ (c : Scr) (r : Addr) (many : Int), vs = [.ref r, .int many] ∧ RowA K c H r ∧ 1 ≤ many ∧ many < 1000000 ∧ ∀ (v : Int) H', 0 ≤ v → v < many → hid r H' = hid r H → RowL c H' r → Q (.int v) H'
theorem dk_law_taken (T : Tx K mg d) : DK P w K mg base CX0 1 "_law_taken" (spLTaken K) := by
  refine T.d_law_taken.dk0 sc_law_taken (fun vs H Q E h => ?_) fun f cdv A outer s H vs Q E hr h => ?_
  · obtain ⟨_, _, _, rfl, _⟩ := h
    rfl
  · obtain ⟨⟨sc, ns⟩, r, many, rfl, hrow, hm1, hm2, q⟩ := h
    obtain ⟨⟨idx, seed, rest, hR, hi0⟩, hS0, hne, hns⟩ := hrow
    simp only at hR hS0 hne hns
    have hS : SqL K H sc (ns.map V.int) := SqL.up (r := r) hS0
    have hcd : CDiv rest many := ⟨by omega, by omega⟩
    refine ⟨_, (pss_cons (ps_if (pt_cmpR op_gt (pe_ix (ix_seqK K rfl) (pv 0) pe_int (fun _ _ => rfl)) pe_int (nomark _))
      (pss_cons (ps_set (i := 2) sc_law_taken.nd rfl (Or.inl rfl) (pe_op op_mod (pe_callTy call_int1 (by rfl) T.f_int (by decide +kernel) (pa_cons (pe_ix (ix_seqK K rfl) (pv 0) pe_int (fun _ _ => rfl)) pa_nil)) (pv 1)))
      (pss_cons (ps_asg (pe_op op_fdiv (pe_ix (ix_seqK K rfl) (pv 0) pe_int (fun _ _ => rfl)) (pv 1)) (pg_sub (pv 0) pe_int set_list))
      (pss_one (ps_ret (pv 2)))))
      pss_nil)
    (pss_cons (ps_asg (pe_op op_add (pe_ix (ix_seqK K rfl) (pv 0) pe_int (fun _ _ => rfl)) pe_int) (pg_sub (pv 0) pe_int set_list))
    (pss_cons (ps_if (pt_cmpR op_gt (pe_ix (ix_seqK K rfl) (pv 0) pe_int (fun _ _ => rfl)) (pe_callB (call_lenK K rfl) (by rfl) T.f_len (by decide +kernel) (pa_cons (pe_ix (ix_seqK K rfl) (pv 0) pe_int (fun _ _ => rfl)) pa_nil)) (nomark _))
      (pss_cons (ps_asg (pe_op op_mod (pe_callTy call_int1 (by rfl) T.f_int (by decide +kernel) (pa_cons (pe_op op_add (pe_op op_mul (pe_ix (ix_seqK K rfl) (pv 0) pe_int (fun _ _ => rfl)) pe_int) pe_int) pa_nil)) pe_int) (pg_sub (pv 0) pe_int set_list))
      (pss_one (ps_ret (pe_op op_mod (pe_callTy call_int1 (by rfl) T.f_int (by decide +kernel) (pa_cons (pe_op op_fdiv (pe_ix (ix_seqK K rfl) (pv 0) pe_int (fun _ _ => rfl)) pe_int) pa_nil)) (pv 1)))))
      pss_nil)
    (pss_cons (ps_set (i := 3) sc_law_taken.nd rfl (Or.inl rfl) (pe_ix (ix_seqK K rfl) (pe_ix (ix_seqK K rfl) (pv 0) pe_int (fun _ _ => rfl)) (pe_op op_sub (pe_ix (ix_seqK K rfl) (pv 0) pe_int (fun _ _ => rfl)) pe_int) (fun _ _ => rfl)))
    (pss_cons (ps_asg (pe_op op_mod (pe_callTy call_int1 (by rfl) T.f_int (by decide +kernel) (pa_cons (pe_op op_add (pe_op op_add (pe_op op_mul (pe_ix (ix_seqK K rfl) (pv 0) pe_int (fun _ _ => rfl)) pe_int) (pv 3)) pe_int) pa_nil)) pe_int) (pg_sub (pv 0) pe_int set_list))
    (pss_cons (ps_if (pt_cmpR op_ge (pv 3) (pe_op op_pow pe_int pe_int) (nomark _))
      (pss_one (ps_asg (pe_op op_fdiv (pv 3) (pv 1)) (pg_sub (pv 0) pe_int set_list)))
      pss_nil)
    (pss_one (ps_ret (pe_op op_mod (pe_callTy call_int1 (by rfl) T.f_int (by decide +kernel) (pa_cons (pv 3) pa_nil)) (pv 1)))))))))), ?_⟩
    have ix : ∀ (k : Nat) (v : V) (H' : Hp) (xs : List V) (Q : VK), H' r = some (.lst xs) → xs[k]? = some v → Q v H' → rIx K (.ref r) (.int (k : Int)) H' Q := fun k v H' xs Q h1 h2 q => Or.inl ⟨r, xs, k, v, rfl, rfl, SqL.of h1, atI_nat h2, q⟩
    refine ⟨_, rfl, ix 3 _ H _ _ hR rfl ?_⟩
    refine ⟨_, _, rfl, rfl, decide (0 < rest), rfl, ?_⟩
    refine ite2 (fun c => ?_) fun c => ?_
    · have c : 0 < rest := of_decide_eq_true c
      refine ⟨_, rfl, ix 3 _ H _ _ hR rfl ?_⟩
      refine .inl ⟨rest, rfl, _, rfl, _, _, rfl, rfl, (by omega : 0 < many), ?_⟩
      refine ⟨_, rfl, ix 3 _ H _ _ hR rfl ?_⟩
      refine ⟨_, rfl, _, _, rfl, rfl, ⟨by omega, by omega⟩, ?_⟩
      refine ⟨_, rfl, r, _, 3, 3, rfl, rfl, hR, rfl, ?_⟩
      exact ⟨_, rfl, q _ _ (Int.emod_nonneg _ (by omega)) (Int.emod_lt_of_pos _ (by omega)) hid_upd (row_mk (c := ⟨sc, ns⟩) hi0)⟩
    · refine ⟨_, rfl, ix 1 _ H _ _ hR rfl ?_⟩
      refine ⟨_, _, rfl, rfl, _, rfl, r, _, 1, 1, rfl, rfl, hR, rfl, ?_⟩
      have hR1 : (upd H r (.lst [.ref sc, .int (idx + 1), .int seed, .int rest])) r = some (.lst [.ref sc, .int (idx + 1), .int seed, .int rest]) := upd_same
      have hS1 : ∀ u, SqL K (upd H r u) sc (ns.map V.int) := fun u => by
        rcases hS with (h | ⟨o, h⟩) | h
        · exact .inl (.inl (by rw [upd_ne hne]; exact h))
        · exact .inl (.inr ⟨o, by rw [upd_ne hne]; exact h⟩)
        · exact .inr h
      refine ⟨_, rfl, ix 1 _ _ _ _ hR1 rfl ?_⟩
      refine ⟨_, rfl, ix 0 _ _ _ _ hR1 rfl ?_⟩
      refine ⟨.ref sc, ns.length, rfl, Or.inl ⟨_, hS1 _, by simp⟩, _, _, rfl, rfl, decide ((ns.length : Int) < idx + 1), rfl, ?_⟩
      by_cases c2 : (ns.length : Int) < idx + 1
      · rw [decide_eq_true c2]
        refine iteT ⟨_, rfl, ix 2 _ _ _ _ hR1 rfl ?_⟩
        refine ⟨_, _, rfl, rfl, .inr (by decide), _, _, rfl, rfl, .inl ⟨_, rfl, _, _, rfl, rfl, (by decide : (0 : Int) < 2147483647), ?_⟩⟩
        refine ⟨_, rfl, r, _, 2, 2, rfl, rfl, hR1, rfl, ?_⟩
        rw [upd_upd]
        refine ⟨_, rfl, ix 2 _ _ _ _ upd_same rfl ?_⟩
        refine ⟨_, _, rfl, rfl, ⟨by decide, by decide⟩, .inl ⟨_, rfl, _, rfl, _, _, rfl, rfl, (by omega : 0 < many), ?_⟩⟩
        exact q _ _ (Int.emod_nonneg _ (by omega)) (Int.emod_lt_of_pos _ (by omega)) hid_upd (row_mk (c := ⟨sc, ns⟩) (by omega))
      · rw [decide_eq_false c2]
        have hk : idx.toNat < ns.length := by omega
        refine iteF ⟨_, rfl, ix 0 _ _ _ _ hR1 rfl ?_⟩
        refine ⟨_, rfl, ix 1 _ _ _ _ hR1 rfl ?_⟩
        refine ⟨_, _, rfl, rfl, Or.inl ⟨sc, _, ((idx.toNat : Nat) : Int), .int ns[idx.toNat], rfl, ?_, hS1 _, atI_nat (by rw [List.getElem?_map, List.getElem?_eq_getElem hk]; rfl), ?_⟩⟩
        · refine congrArg V.int ?_
          omega
        refine ⟨_, rfl, ix 2 _ _ _ _ hR1 rfl ?_⟩
        refine ⟨_, _, rfl, rfl, .inr (by decide), _, rfl, _, _, rfl, rfl, _, _, rfl, rfl, .inl ⟨_, rfl, _, _, rfl, rfl, (by decide : (0 : Int) < 2147483647), ?_⟩⟩
        refine ⟨_, rfl, r, _, 2, 2, rfl, rfl, hR1, rfl, ?_⟩
        rw [upd_upd]
        refine ⟨_, rfl, _, _, rfl, rfl, ⟨by decide, by decide, by decide⟩, _, _, rfl, rfl, decide ((10 : Int) ^ (18 : Int).toNat ≤ ns[idx.toNat]), rfl, ?_⟩
        refine ite2 (fun _ => ?_) fun _ => ?_
        · refine ⟨_, rfl, _, rfl, _, _, rfl, rfl, ⟨by omega, by omega⟩, ?_⟩
          refine ⟨_, rfl, r, _, 3, 3, rfl, rfl, upd_same, rfl, ?_⟩
          rw [upd_upd]
          refine ⟨_, rfl, .inl ⟨_, rfl, _, rfl, _, _, rfl, rfl, (by omega : 0 < many), ?_⟩⟩
          exact q _ _ (Int.emod_nonneg _ (by omega)) (Int.emod_lt_of_pos _ (by omega)) hid_upd (row_mk (c := ⟨sc, ns⟩) (by omega))
        · refine ⟨_, rfl, .inl ⟨_, rfl, _, rfl, _, _, rfl, rfl, (by omega : 0 < many), ?_⟩⟩
          exact q _ _ (Int.emod_nonneg _ (by omega)) (Int.emod_lt_of_pos _ (by omega)) hid_upd (row_mk (c := ⟨sc, ns⟩) (by omega))
def spLPick (K : PySem.W.Frag) : Sp := fun vs H Q _ => ∃ (c : Scr) (r p : Addr) (xs : List V), vs = [.ref r, .ref p] ∧ RowA K c H r ∧ SqL K (hid r H) p xs ∧ 1 ≤ xs.length ∧ xs.length ≤ 1000 ∧ ∀ (i : Nat) (v : V) H', xs[i]? = some v → hid r H' = hid r H → RowL c H' r → Q v H'
theorem dk_law_pick (T : Tx K mg d) : DK P w K mg base CX0 2 "_law_pick" (spLPick K) := by
  have d_law_taken : DK P w K mg base CX0 1 "_law_taken" (spLTaken K) := dk_law_taken T
  refine T.d_law_pick.dk0 sc_law_pick (fun vs H Q E h => ?_) fun f cdv A outer s H vs Q E hr h => ?_
  · obtain ⟨_, _, _, _, rfl, _⟩ := h
    rfl
  · obtain ⟨c, r, p, xs, rfl, hrow, hp, h1, h2, q⟩ := h
    refine ⟨_, (pss_one (ps_ret (pe_ix (ix_seqK K rfl) (pv 1) (pe_d d_law_taken hr (by decide) rfl pass0 (pa_cons (pv 0) (pa_cons (pe_callB (call_lenK K rfl) (by rfl) T.f_len (by decide +kernel) (pa_cons (pv 1) pa_nil)) pa_nil))) (fun _ _ => rfl)))), ?_⟩
    refine ⟨_, rfl, _, rfl, _, rfl, .ref p, xs.length, rfl, Or.inl ⟨_, SqL.up (r := r) hp, rfl⟩, c, r, (xs.length : Int), rfl, hrow, by omega, by omega, fun v H1 v0 v1 e1 row1 => ?_⟩
    have hv : v.toNat < xs.length := by omega
    have ev : v = ((v.toNat : Nat) : Int) := by omega
    have hg : xs[v.toNat]? = some xs[v.toNat] := List.getElem?_eq_getElem hv
    refine Or.inl ⟨p, xs, v, xs[v.toNat], rfl, rfl, ?_, ?_, q _ _ H1 hg e1 row1⟩
    · exact SqL.up (r := r) (by rw [e1]; exact hp)
    · have := atI_nat hg
      rwa [← ev] at this
end
end HK
set_option Elab.async false
set_option linter.all false
set_option maxRecDepth 100000
set_option maxHeartbeats 1000000
namespace HK
open PySem PySem.Spec PyProof.Rows L2 SX
inductive Al : Nat → PyData → Prop
  | non {n : Nat} : Al n .none
  | int {n : Nat} (i : Int) : Al n (.int i)
  | str {n : Nat} (s : Str) : Al n (.str s)
  | tup {n : Nat} {ds : List PyData} (h : ∀ x ∈ ds, Al n x) (l : ds.length ≤ 1000) : Al (n + 1) (.tuple ds)
theorem kit_tl_t {K : PySem.W.Frag} : PySem.W.kitAny K (.type "tuple") [.type "tuple", .type "list"] = some true := kitAny_cons (b := true) (kit_ty (by decide +kernel)) (fun z => by cases z) fun _ => rfl
theorem kit_tl_f {K : PySem.W.Frag} {a : String} (h1 : kitB a "tuple" = some false) (h2 : kitB a "list" = some false) : PySem.W.kitAny K (.type a) [.type "tuple", .type "list"] = some false :=
  kitAny_cons (b := false) (kit_ty h1) (fun _ => kitAny_cons (b := false) (kit_ty h2) (fun _ => kitAny_nil) fun z => by cases z) fun z => by cases z
section
variable {P : Program} {w : World} {K : PySem.W.Frag} {mg : Str → Option Value} {base : Heap} {d : Ad}
def spAlike (K : PySem.W.Frag) (n : Nat) : Sp := fun vs H Q _ => ∃ (v u : V) (dd : PyData), vs = [v, u] ∧ Dp K H v dd ∧ Dp K H u dd ∧ Al n dd ∧ ∀ H', Same H H' → Q (.bl true) H'
theorem flat_alike (T : Tx K mg d) (k : Nat) (sp0 : Sp) (d_law_alike : DK P w K mg base CX0 k "_law_alike" sp0) (sp : Sp) (hlen : ∀ vs H Q E, sp vs H Q E → vs.length = 2)
    (hsp : ∀ vs H Q E, sp vs H Q E → ∃ (v u : V) (dd : PyData), vs = [v, u] ∧ Dp K H v dd ∧ Dp K H u dd ∧ (∀ H', Same H H' → Q (.bl true) H') ∧
      (dd = .none ∨ (∃ i, dd = .int i) ∨ (∃ s, dd = .str s) ∨ ∃ ds, dd = .tuple ds ∧ ds.length ≤ 1000 ∧ ∀ (H' : Hp) (Q' : VK) (i : Nat) (x y : V), Same H H' → (∃ e, ds[i]? = some e ∧ Dp K H' x e ∧ Dp K H' y e) → (∀ H2, Same H' H2 → Q' (.bl true) H2) → sp0 [x, y] H' Q' E0)) :
    DK P w K mg base CX0 (k + 1) "_law_alike" sp := by
  refine T.d_law_alike.dk0 sc_law_alike (fun vs H Q E h => hlen vs H Q E h) fun f cdv A outer s H vs Q E hr h => ?_
  obtain ⟨v, u, dd, rfl, hv, hu, q, hcase⟩ := hsp vs H Q E h
  refine ⟨_, (pss_cons (ps_if (pt_val (pe_callB (call_isiTK K rfl) (by rfl) T.f_isinstance (by decide +kernel) (pa_cons (pv 1) (pa_cons (pe_tup (pa_cons (pe_bltn (v := .ty "tuple") rfl T.f_tuple (by decide +kernel) rfl) (pa_cons (pe_bltn (v := .ty "list") rfl T.f_list (by decide +kernel) rfl) pa_nil))) pa_nil))))
      (pss_cons (ps_if (PW.pt (pw_or (pt_not (pt_val (pe_callB (call_isiTK K rfl) (by rfl) T.f_isinstance (by decide +kernel) (pa_cons (pv 0) (pa_cons (pe_tup (pa_cons (pe_bltn (v := .ty "tuple") rfl T.f_tuple (by decide +kernel) rfl) (pa_cons (pe_bltn (v := .ty "list") rfl T.f_list (by decide +kernel) rfl) pa_nil))) pa_nil))))) (pw_or1 (pt_cmpR op_ne (pe_callB (call_isiK' K rfl) (by rfl) T.f_isinstance (by decide +kernel) (pa_cons (pv 0) (pa_cons (pe_bltn (v := .ty "list") rfl T.f_list (by decide +kernel) rfl) pa_nil))) (pe_callB (call_isiK' K rfl) (by rfl) T.f_isinstance (by decide +kernel) (pa_cons (pv 1) (pa_cons (pe_bltn (v := .ty "list") rfl T.f_list (by decide +kernel) rfl) pa_nil))) (nomark _)))))
        (pss_one (ps_ret pe_bl))
        pss_nil)
      (pss_cons (ps_if (pt_cmpR op_ne (pe_callB (call_lenK K rfl) (by rfl) T.f_len (by decide +kernel) (pa_cons (pv 0) pa_nil)) (pe_callB (call_lenK K rfl) (by rfl) T.f_len (by decide +kernel) (pa_cons (pv 1) pa_nil)) (nomark _))
        (pss_one (ps_ret pe_bl))
        pss_nil)
      (pss_one (ps_ret (pe_cmpR (op_eqDK K rfl hr.units) (by exact (pe_lc (own := [("_law_k", 2)]) (by rfl) sc_law_alike.nd (pi_range1 (by rfl) T.f_range (pa_cons (pe_callB (call_lenK K rfl) (by rfl) T.f_len (by decide +kernel) (pa_cons (pv 1) pa_nil)) pa_nil)) (blkOk_by (own := [("_law_k", 2)]) (N := n_law_alike) (sc := defScope s_law_alike) (by decide +kernel)) (fun _ _ _ _ _ => by exact (pg_name (i := 2) sc_law_alike.nd rfl (Or.inl rfl))) (fun _ _ _ _ _ => by exact (pts_one (pt_not (pt_val (pe_d d_law_alike hr (Nat.le_refl _) rfl pass0 (pa_cons (pe_ix (ix_seqK K rfl) (pv 0) (pv 2) (fun _ _ => rfl)) (pa_cons (pe_ix (ix_seqK K rfl) (pv 1) (pv 2) (fun _ _ => rfl)) pa_nil))))))) (fun _ _ _ _ _ => by exact (pv 2)))) (pe_lst pa_nil) (nomark _))))))
      pss_nil)
    (pss_cons (ps_if (PW.pt (pw_or (pt_cmpR op_isN (pv 1) pe_non (nomark _)) (pw_or1 (pt_val (pe_callB (call_isiK' K rfl) (by rfl) T.f_isinstance (by decide +kernel) (pa_cons (pv 1) (pa_cons (pe_bltn (v := .ty "str") rfl T.f_str (by decide +kernel) rfl) pa_nil)))))))
      (pss_one (ps_ret (pe_and (pe_cmpR op_eq (pv 0) (pv 1) (nomark _)) (pe_one (pe_cmpR op_eq (pe_callB (call_isiK' K rfl) (by rfl) T.f_isinstance (by decide +kernel) (pa_cons (pv 0) (pa_cons (pe_bltn (v := .ty "str") rfl T.f_str (by decide +kernel) rfl) pa_nil))) (pe_callB (call_isiK' K rfl) (by rfl) T.f_isinstance (by decide +kernel) (pa_cons (pv 1) (pa_cons (pe_bltn (v := .ty "str") rfl T.f_str (by decide +kernel) rfl) pa_nil))) (nomark _))))))
      pss_nil)
    (pss_one (ps_ret (pe_and (pe_callB (call_isiK' K rfl) (by rfl) T.f_isinstance (by decide +kernel) (pa_cons (pv 0) (pa_cons (pe_bltn (v := .ty "int") rfl T.f_int (by decide +kernel) rfl) pa_nil))) (pe_and (pe_cmpR op_eq (pe_callB (call_isiK' K rfl) (by rfl) T.f_isinstance (by decide +kernel) (pa_cons (pv 0) (pa_cons (pe_bltn (v := .ty "bool") rfl T.f_bool (by decide +kernel) rfl) pa_nil))) (pe_callB (call_isiK' K rfl) (by rfl) T.f_isinstance (by decide +kernel) (pa_cons (pv 1) (pa_cons (pe_bltn (v := .ty "bool") rfl T.f_bool (by decide +kernel) rfl) pa_nil))) (nomark _)) (pe_one (pe_cmpR op_eq (pv 0) (pv 1) (nomark _))))))))), ?_⟩
  rcases hcase with rfl | ⟨i, rfl⟩ | ⟨z, rfl⟩ | ⟨ds, rfl, hdl, hrec⟩
  · cases hv
    cases hu
    refine ⟨_, rfl, (show (2 : Nat) ≤ sizeLine by decide), fun p np => ⟨.non, p, _, .type "NoneType", _, false, rfl, upd_same, .cons (.ty _) (.cons (.ty _) .nil), .base .non, kit_tl_f (by decide +kernel) (by decide +kernel), false, rfl, iteF ?_⟩⟩
    refine ⟨_, rfl, rfl, true, rfl, iteT (iteT ?_)⟩
    refine ⟨_, rfl, _, rfl, rfl, true, rfl, iteT ?_⟩
    refine ⟨_, rfl, .non, .ty "str", .type "NoneType", .type "str", false, rfl, .ty _, .base .non, kit_ty (by decide +kernel), _, rfl, .non, .ty "str", .type "NoneType", .type "str", false, rfl, .ty _, .base .non, kit_ty (by decide +kernel), rfl, ?_⟩
    exact q _ (same_go (Go.new (t00 _) np))
  · cases hv
    cases hu
    refine ⟨_, rfl, (show (2 : Nat) ≤ sizeLine by decide), fun p np => ⟨.int i, p, _, .type "int", _, false, rfl, upd_same, .cons (.ty _) (.cons (.ty _) .nil), .base (.int _), kit_tl_f (by decide +kernel) (by decide +kernel), false, rfl, iteF ?_⟩⟩
    refine ⟨_, rfl, rfl, false, rfl, iteF ?_⟩
    refine ⟨_, rfl, .int i, .ty "str", .type "int", .type "str", false, rfl, .ty _, .base (.int _), kit_ty (by decide +kernel), false, rfl, iteF ?_⟩
    refine ⟨_, rfl, .int i, .ty "int", .type "int", .type "int", true, rfl, .ty _, .base (.int _), kit_ty (by decide +kernel), true, rfl, iteT ?_⟩
    refine ⟨_, rfl, .int i, .ty "bool", .type "int", .type "bool", false, rfl, .ty _, .base (.int _), kit_ty (by decide +kernel), _, rfl, .int i, .ty "bool", .type "int", .type "bool", false, rfl, .ty _, .base (.int _), kit_ty (by decide +kernel), rfl, true, rfl, iteT ?_⟩
    refine ⟨_, rfl, _, rfl, rfl, ?_⟩
    rw [decide_eq_true rfl]
    exact q _ (same_go (Go.new (t00 _) np))
  · cases hv
    cases hu
    refine ⟨_, rfl, (show (2 : Nat) ≤ sizeLine by decide), fun p np => ⟨.str z, p, _, .type "str", _, false, rfl, upd_same, .cons (.ty _) (.cons (.ty _) .nil), .base (.str _), kit_tl_f (by decide +kernel) (by decide +kernel), false, rfl, iteF ?_⟩⟩
    refine ⟨_, rfl, rfl, false, rfl, iteF ?_⟩
    refine ⟨_, rfl, .str z, .ty "str", .type "str", .type "str", true, rfl, .ty _, .base (.str _), kit_ty (by decide +kernel), true, rfl, iteT ?_⟩
    refine ⟨_, rfl, _, rfl, rfl, true, congrArg V.bl (decide_eq_true rfl), iteT ?_⟩
    refine ⟨_, rfl, .str z, .ty "str", .type "str", .type "str", true, rfl, .ty _, .base (.str _), kit_ty (by decide +kernel), _, rfl, .str z, .ty "str", .type "str", .type "str", true, rfl, .ty _, .base (.str _), kit_ty (by decide +kernel), rfl, ?_⟩
    exact q _ (same_go (Go.new (t00 _) np))
  · obtain ⟨a, xs, rfl, ha, hxs⟩ := Dp.tup_inv hv
    obtain ⟨b, ys, rfl, hb, hys⟩ := Dp.tup_inv hu
    have l1 := DpAll.len hxs
    have l2 := DpAll.len hys
    refine ⟨_, rfl, (show (2 : Nat) ≤ sizeLine by decide), fun p np => ⟨.ref b, p, _, .type "tuple", _, true, rfl, upd_same, .cons (.ty _) (.cons (.ty _) .nil), ?_, kit_tl_t, true, rfl, iteT ?_⟩⟩
    · exact tyx_tup ((Go.new (t00 _) np).st hb)
    have g1 := Go.new (o := .tup [.ty "tuple", .ty "list"]) (t00 H) np
    refine ⟨_, rfl, (show (2 : Nat) ≤ sizeLine by decide), fun p2 np2 => ⟨.ref a, p2, _, .type "tuple", _, true, rfl, upd_same, .cons (.ty _) (.cons (.ty _) .nil), tyx_tup ((g1.then np2).st ha), kit_tl_t, true, rfl, iteF ?_⟩⟩
    have g2 := g1.then np2 (o := .tup [.ty "tuple", .ty "list"])
    refine ⟨_, rfl, .ref a, .ty "list", .type "tuple", .type "list", false, rfl, .ty _, tyx_tup (g2.st ha), kit_ty (by decide +kernel), _, rfl, .ref b, .ty "list", .type "tuple", .type "list", false, rfl, .ty _, tyx_tup (g2.st hb), kit_ty (by decide +kernel), rfl, false, rfl, iteF ?_⟩
    refine ⟨_, rfl, .ref a, xs.length, rfl, Or.inr ⟨_, g2.st ha, rfl⟩, _, rfl, .ref b, ys.length, rfl, Or.inr ⟨_, g2.st hb, rfl⟩, rfl, false, ?_, iteF ?_⟩
    · rw [l1, l2]
      simp
    refine ⟨_, rfl, .ref b, ys.length, rfl, Or.inr ⟨_, g2.st hb, rfl⟩, (ys.length : Int), rfl, by omega, by omega, fun D nD => ?_⟩
    refine lc_val (walk_range (lo := 0) (n := ((ys.length : Int)).toNat)) g2.t1 nD (fun _ _ => trivial) yfn_same (by omega) (fun _ => none) (fun i x H' H'' Post hi go hy gy hp => ?_) (fun H3 g3 e3 => ?_)
    · obtain ⟨rfl, rfl⟩ := hy
      have hi2 : i < ds.length := by omega
      have gi := (g2.trans go)
      obtain ⟨x, hx, dx⟩ := DpAll.get hxs (List.getElem?_eq_getElem hi2)
      obtain ⟨y, hy, dy⟩ := DpAll.get hys (List.getElem?_eq_getElem hi2)
      refine ⟨rfl, _, rfl, _, rfl, Or.inr (Or.inl ⟨a, _, i, x, rfl, congrArg V.int (Int.zero_add _), gi.st ha, atI_nat hx, ?_⟩)⟩
      refine ⟨_, rfl, _, rfl, Or.inr (Or.inl ⟨b, _, i, y, rfl, congrArg V.int (Int.zero_add _), gi.st hb, atI_nat hy, ?_⟩)⟩
      refine hrec _ _ i x y (same_go gi) ⟨_, List.getElem?_eq_getElem hi2, Dp.go gi dx, Dp.go gi dy⟩ fun H2 s2 => ?_
      exact ⟨true, rfl, iteF (hp H2 (go_same s2))⟩
    · have e4 : (List.range ((ys.length : Int)).toNat).filterMap (fun _ => (none : Option V)) = [] := by
        rw [List.filterMap_eq_nil_iff]
        intro _ _
        rfl
      rw [e4] at e3
      refine ⟨(show (0 : Nat) ≤ sizeLine by decide), fun p4 n4 => ?_⟩
      have g4 := (g2.trans g3).then n4 (o := .lst [])
      refine ⟨.list [], .list [], .lst (SqL.of ((Go.new g3.t1 n4).lst e3)) .nil, .lst (SqL.of upd_same) .nil, by decide +kernel, by decide +kernel, ?_⟩
      exact q _ (same_go g4)
theorem dk_alike0 (T : Tx K mg d) : DK P w K mg base CX0 1 "_law_alike" (fun _ _ _ _ => False) :=
  T.d_law_alike.dk0 sc_law_alike (fun _ _ _ _ h => h.elim) fun _ _ _ _ _ _ _ _ _ _ h => h.elim
theorem dk_law_alike (T : Tx K mg d) : ∀ n : Nat, DK P w K mg base CX0 (n + 2) "_law_alike" (spAlike K n)
  | 0 => flat_alike T 1 _ (dk_alike0 T) _ (fun _ _ _ _ h => by obtain ⟨_, _, _, rfl, _⟩ := h; rfl) fun vs H Q E h => by
    obtain ⟨v, u, dd, rfl, hv, hu, al, q⟩ := h
    refine ⟨v, u, dd, rfl, hv, hu, q, ?_⟩
    cases al with
    | non => exact .inl rfl
    | int i => exact .inr (.inl ⟨i, rfl⟩)
    | str z => exact .inr (.inr (.inl ⟨z, rfl⟩))
  | n + 1 => flat_alike T (n + 2) _ (dk_law_alike T n) _ (fun _ _ _ _ h => by obtain ⟨_, _, _, rfl, _⟩ := h; rfl) fun vs H Q E h => by
    obtain ⟨v, u, dd, rfl, hv, hu, al, q⟩ := h
    refine ⟨v, u, dd, rfl, hv, hu, q, ?_⟩
    cases al with
    | non => exact .inl rfl
    | int i => exact .inr (.inl ⟨i, rfl⟩)
    | str z => exact .inr (.inr (.inl ⟨z, rfl⟩))
    | tup h l => exact .inr (.inr (.inr ⟨_, rfl, l, fun H' Q' i x y s2 ⟨e, h1, h2, h3⟩ hq => ⟨x, y, e, rfl, h2, h3, h e (List.mem_of_getElem? h1), hq⟩⟩))
end
end HK
set_option Elab.async false
set_option linter.all false
set_option maxRecDepth 100000
set_option maxHeartbeats 1000000
namespace HK
open PySem PySem.Spec PyProof.Rows L2 SX
section
variable {c : Scr} {T : List Addr} {r : Addr} {J : It} {n : Nat} {G : Hp → Prop} {Y : Nat → Hp → V → Hp → Prop}
/-- a comprehension that draws: by what its list holds so far -/
theorem lc_accR (w : Walk J n G Y) {g : TG} {tt : TT} {te : TE} {vs : List Nat} {σ : L2.St} {H1 : Hp} {D : Addr} {Qd : Hp → Prop} (t : Tb T H1) (row : RowL c H1 r) (nD : H1 D = none) (hG : ∀ H', Mv c T r H1 H' → G H')
    (hY : ∀ i H x H', Y i H x H' → ∀ b o, H b = some o → H' b = some o) (hn : n ≤ 100000)
    (Acc : Nat → List V → Hp → Prop) (mono : ∀ i acc H H', Go T H H' → Acc i acc H → Acc i acc H') (h0 : Acc 0 [] (hid r H1))
    (hs : ∀ i x H H' acc (Post : Option V → Hp → Prop), i < n → Mv c T r H1 H → H D = some (.lst acc) → Acc i acc (hid D (hid r H)) → Y i H x H' → Mv c T r H H' →
      (∀ H2 o, Mv c T r H H2 → Acc (i + 1) (acc ++ o.toList) (hid D (hid r H2)) → Post o H2) →
      g x (wipe σ vs) H' fun σ2 H2 => wipe σ2 vs = wipe σ vs ∧ tt σ2 H2 fun b H3 => if b = true then te σ2 H3 fun y H4 => Post (some y) H4 else Post none H3)
    (hd : ∀ H' acc, Mv c T r H1 H' → H' D = some (.lst acc) → Acc n acc (hid r H') → Acc n acc (hid D (hid r H')) → Qd H') :
    ∃ W : Nat → Nat → Hp → Prop, (∃ m, W 0 m (upd H1 D (.lst []))) ∧ ∀ i m H, W i m H →
      (J.stop i H ∧ Qd H) ∨ (J.go i H ∧ ∃ Nx : Hp → Prop, (∀ H', Nx H' → ∃ m', m' < m ∧ W (i + 1) m' H') ∧ ∀ x H', J.yld i H x H' → g x (wipe σ vs) H' fun σ2 H2 => wipe σ2 vs = wipe σ vs ∧ tt σ2 H2 fun b H3 =>
        if b = true then te σ2 H3 fun y H4 => ∃ acc, H4 D = some (.lst acc) ∧ acc.length < sizeLine ∧ Nx (upd H4 D (.lst (acc ++ [y]))) else Nx H3) := by
  have nT := t.nofree nD
  have hDr := row.ne nD
  have m0 := Mv.refl t row
  have keepD : ∀ {H : Hp} {o : HO}, hid D (hid r (upd H D o)) = hid D (hid r H) := fun {H o} => by rw [hid_put hDr, hid_upd]
  refine lc_it w (fun i H => ∃ acc, H D = some (.lst acc) ∧ acc.length ≤ i ∧ Mv c T r H1 H ∧ Acc i acc (hid D (hid r H))) ⟨[], upd_same, Nat.zero_le _, m0.then nD, ?_⟩ (fun i H _ p => ?_) (fun i x H H' hi p y => ?_) fun H p => ?_
  · rw [keepD, hid_none (by rw [hid_ne hDr]; exact nD)]
    exact h0
  · obtain ⟨acc, _, _, go, _⟩ := p
    exact hG H go
  · obtain ⟨acc, hD, hlen, go, ha⟩ := p
    have gY : Mv c T r H H' := Mv.of_go go.row (Go.same go.tb (hY i H x H' y))
    refine hs i x H H' acc (fun o H2 => match o with
      | some y => ∃ acc, H2 D = some (.lst acc) ∧ acc.length < sizeLine ∧ ∃ acc', (upd H2 D (.lst (acc ++ [y]))) D = some (.lst acc') ∧ acc'.length ≤ i + 1 ∧ Mv c T r H1 (upd H2 D (.lst (acc ++ [y]))) ∧ Acc (i + 1) acc' (hid D (hid r (upd H2 D (.lst (acc ++ [y])))))
      | none => ∃ acc', H2 D = some (.lst acc') ∧ acc'.length ≤ i + 1 ∧ Mv c T r H1 H2 ∧ Acc (i + 1) acc' (hid D (hid r H2))) hi go hD ha y gY (fun H2 o g2 a2 => ?_)
    cases o with
    | some y =>
      refine ⟨acc, g2.lst hDr hD, by rw [sizeLine_eq]; omega, acc ++ [y], upd_same, by simp; omega, (go.trans g2).put nD hDr, ?_⟩
      rw [keepD]
      exact a2
    | none =>
      refine ⟨acc, g2.lst hDr hD, by omega, go.trans g2, ?_⟩
      simpa using a2
  · obtain ⟨acc, hD, hlen, go, ha⟩ := p
    exact hd H acc go hD (mono n acc _ _ (go_unhid go.go.t1 nT) ha) ha
end
end HK
set_option Elab.async false
set_option linter.all false
set_option maxRecDepth 100000
set_option maxHeartbeats 2000000
namespace HK
open PySem PySem.Spec PyProof.Rows L2 SX
def tl (ts : List (Int × Int)) : List (List Int) := ts.map fun t => [t.1, t.2]
theorem two_sorted {a b : Int} {ns : List Int} (h : b < a) (p : ns.Perm [a, b]) (s : ns.Pairwise (· ≤ ·)) : ns = [b, a] := by
  have hl := p.length_eq
  match ns, hl, p, s with
  | [x, y], _, p, s =>
    have h1 : x ∈ [a, b] := p.mem_iff.mp (by simp)
    have h2 : y ∈ [a, b] := p.mem_iff.mp (by simp)
    have h3 : a ∈ [x, y] := p.mem_iff.mpr (by simp)
    have h4 : b ∈ [x, y] := p.mem_iff.mpr (by simp)
    have h5 : x ≤ y := by simpa using s
    simp at h1 h2 h3 h4
    have e1 : x = b := by omega
    have e2 : y = a := by omega
    rw [e1, e2]
theorem top_ {i : Nat} {v : V} {σ : L2.St} {H : Hp} {Q : L2.St → Hp → Prop} (h : Q (σ.set i (some v)) H) : gName i v σ H Q := h
theorem nx_ {a rest : TS} {D : Ends} {σ : L2.St} {H : Hp} (h : a { D with nx := rest D } σ H) : tSeq a rest D σ H := h
theorem if_join {c : TT} {t u : TS} {D : Ends} {σ : L2.St} {H : Hp} (M : L2.St → Hp → Prop) (h : (∀ σ H, M σ H → D.nx σ H) → tIfS c t u D σ H) (k : ∀ σ H, M σ H → D.nx σ H) : tIfS c t u D σ H := h k
structure TP (n : Int) (ts : List (Int × Int)) : Prop where
  ok : ∀ t ∈ ts, TieOk n t
  tree : Tree n ts
theorem TP.add {n : Int} {ts : List (Int × Int)} {t : Int × Int} (h : TP n ts) (k : TieOk n t) : TP n (ts ++ [t]) := by
  refine ⟨fun u hu => ?_, fun p h1 h2 => ?_⟩
  · rcases List.mem_append.mp hu with z | z
    · exact h.ok u z
    · have : u = t := by simpa using z
      rw [this]
      exact k
  · obtain ⟨q, a, b, m⟩ := h.tree p h1 h2
    exact ⟨q, a, b, List.mem_append_left _ m⟩
theorem sqT_upd {K : PySem.W.Frag} {H : Hp} {t p : Addr} {ys zs xs : List V} (ht : H t = some (.lst ys)) (h : SqT K H p xs) : SqT K (upd H t (.lst zs)) p xs := by
  rcases h with h | h
  · have n : p ≠ t := fun z => by
      rw [z] at h
      rcases h with h | ⟨o, h⟩ <;> (rw [ht] at h; cases h)
    rcases h with h | ⟨o, h⟩
    · exact .inl (.inl (by rw [upd_ne n]; exact h))
    · exact .inl (.inr ⟨o, by rw [upd_ne n]; exact h⟩)
  · exact .inr h
theorem IntTups.put {K : PySem.W.Frag} {H : Hp} {t : Addr} {ys zs : List V} {xs : List V} {ps : List (List Int)} (ht : H t = some (.lst ys)) (h : IntTups K H xs ps) : IntTups K (upd H t (.lst zs)) xs ps := L2.Paired.mapP h fun _ _ z => by
  obtain ⟨p, e, h⟩ := z
  exact ⟨p, e, sqT_upd ht h⟩
theorem tups_ks {K : PySem.W.Frag} {H : Hp} : ∀ {xs : List V} {ps : List (List Int)}, IntTups K H xs ps → ∃ ks : List (Addr × List Int), xs = ks.map (fun p => V.ref p.1) ∧ ps = ks.map (·.2) ∧ ∀ p ∈ ks, SqT K H p.1 (p.2.map V.int)
  | _, _, .nil => ⟨[], rfl, rfl, by simp⟩
  | _, _, .cons h t => by
    obtain ⟨p, rfl, hp⟩ := h
    obtain ⟨ks, rfl, rfl, hk⟩ := tups_ks t
    refine ⟨(p, _) :: ks, rfl, rfl, fun q hq => ?_⟩
    rcases List.mem_cons.mp hq with rfl | hq
    · exact hp
    · exact hk q hq
section
variable {P : Program} {w : World} {K : PySem.W.Frag} {mg : Str → Option Value} {base : Heap} {d : Ad}
theorem tup_in {H : Hp} {l D r : Addr} {xs : List V} (h : H l = some (.tup xs)) (n1 : l ≠ D) (n2 : l ≠ r) : SqT K (hid D (hid r H)) l xs := .inl (.inl (by rw [hid_ne n1, hid_ne n2]; exact h))
def spLYard (K : PySem.W.Frag) (d : Ad) : Sp := fun vs H Q _ => ∃ (c : Scr) (r : Addr), vs = [.ref r, .int 7] ∧ RowA K c H r ∧ Tb d.T H ∧ ∀ (y : Yd) (v : V) H', VY y → Mv c d.T r H H' → Dp K (hid r H') v (yardD y) → Q v H'
theorem dk_law_yard (T : Tx K mg d) : DK P w K mg base CX0 3 "_law_yard" (spLYard K d) := by
  have d_law_taken : DK P w K mg base CX0 1 "_law_taken" (spLTaken K) := dk_law_taken T
  have d_law_pick : DK P w K mg base CX0 2 "_law_pick" (spLPick K) := dk_law_pick T
  refine T.d_law_yard.dk0 sc_law_yard (fun vs H Q E h => ?_) fun f cdv A outer s H vs Q E hr h => ?_
  · obtain ⟨_, _, rfl, _⟩ := h
    rfl
  · obtain ⟨c, r, rfl, row, tb, q⟩ := h
    refine ⟨_, (pss_cons (ps_set (i := 2) sc_law_yard.nd rfl (Or.inl rfl) (pe_op op_add pe_int (pe_d d_law_taken hr (by decide) rfl pass0 (pa_cons (pv 0) (pa_cons (pe_op op_sub (pv 1) pe_int) pa_nil)))))
    (pss_cons (ps_setLc (i := 3) (own := [("_law_place", 8)]) (by rfl) sc_law_yard.nd rfl rfl (sw_true rfl rfl rfl (by decide +kernel)) (pi_range2 (by rfl) T.f_range (pa_cons pe_int (pa_cons (pv 2) pa_nil))) (blkOk_by (own := [("_law_place", 8)]) (N := n_law_yard) (sc := defScope s_law_yard) (by decide +kernel)) (fun _ _ _ _ _ => by exact (pg_name (i := 8) sc_law_yard.nd rfl (Or.inl rfl))) (fun _ _ _ _ _ => by exact pts_nil) (fun _ _ _ _ _ => by exact (pe_callTy (call_tupK K rfl) (by rfl) T.f_tuple (by decide +kernel) (pa_cons (pe_callB (cr_sortedK K rfl) (by rfl) T.f_sorted (by decide +kernel) (pa_cons (pe_lst (pa_cons (pv 8) (pa_cons (pe_d d_law_taken hr (by decide) rfl pass0 (pa_cons (pv 0) (pa_cons (pv 8) pa_nil))) pa_nil))) pa_nil)) pa_nil))))
    (pss_cons (ps_set (i := 4) sc_law_yard.nd rfl (Or.inl rfl) (pe_lst pa_nil))
    (pss_cons (ps_for PassesOwn.never rfl (pi_range1 (by rfl) T.f_range (pa_cons (pv 2) pa_nil)) (pg_name (i := 5) sc_law_yard.nd rfl (Or.inr rfl))
      (pss_one (ps_set (i := 4) sc_law_yard.nd rfl (Or.inl rfl) (pe_op op_cat (pv 4) (by exact (pe_lc (own := [("_law_other", 9)]) (by rfl) sc_law_yard.nd (pi_range2 (by rfl) T.f_range (pa_cons (pe_op op_add (pv 5) pe_int) (pa_cons (pv 2) pa_nil))) (blkOk_by (own := [("_law_other", 9)]) (N := n_law_yard) (sc := defScope s_law_yard) (by decide +kernel)) (fun _ _ _ _ _ => by exact (pg_name (i := 9) sc_law_yard.nd rfl (Or.inl rfl))) (fun _ _ _ _ _ => by exact pts_nil) (fun _ _ _ _ _ => by exact (pe_tup (pa_cons (pv 5) (pa_cons (pv 9) pa_nil))))))))))
    (pss_cons (ps_set (i := 6) sc_law_yard.nd rfl (Or.inl rfl) (pe_d d_law_taken hr (by decide) rfl pass0 (pa_cons (pv 0) (pa_cons pe_int pa_nil))))
    (pss_cons (ps_if (pt_cmpR op_eq (pv 6) pe_int (nomark _))
      (pss_one (ps_set (i := 3) sc_law_yard.nd rfl (Or.inl rfl) (pe_op op_cat (by exact (pe_lc (own := [("_law_place", 8)]) (by rfl) sc_law_yard.nd (pi_range1 (by rfl) T.f_range (pa_cons (pe_op op_sub (pv 2) pe_int) pa_nil)) (blkOk_by (own := [("_law_place", 8)]) (N := n_law_yard) (sc := defScope s_law_yard) (by decide +kernel)) (fun _ _ _ _ _ => by exact (pg_name (i := 8) sc_law_yard.nd rfl (Or.inl rfl))) (fun _ _ _ _ _ => by exact pts_nil) (fun _ _ _ _ _ => by exact (pe_tup (pa_cons (pv 8) (pa_cons (pe_op op_add (pv 8) pe_int) pa_nil)))))) (pe_lst (pa_cons (pe_tup (pa_cons pe_int (pa_cons (pe_op op_sub (pv 2) pe_int) pa_nil))) pa_nil)))))
      pss_nil)
    (pss_cons (ps_for PassesOwn.never rfl (pi_range1 (by rfl) T.f_range (pa_cons (pe_ifExp (pt_cmpR op_lt (pv 6) pe_int (nomark _)) (pe_d d_law_taken hr (by decide) rfl pass0 (pa_cons (pv 0) (pa_cons pe_int pa_nil))) pe_int) pa_nil)) (pg_name (i := 7) sc_law_yard.nd rfl (Or.inl rfl))
      (pss_one (ps_expr (pe_bm PySem.F.plainAttrs_list PySem.F.slot_list_append PySem.F.type_list_append mt_append (pv 3) (pa_cons (pe_d d_law_pick hr (by decide) rfl pass0 (pa_cons (pv 0) (pa_cons (pv 4) pa_nil))) pa_nil)))))
    (pss_one (ps_ret (pe_tup (pa_cons (pv 2) (pa_cons (pe_callTy (call_tupK K rfl) (by rfl) T.f_tuple (by decide +kernel) (pa_cons (pe_callB (cr_sortedT rfl) (by rfl) T.f_sorted (by decide +kernel) (pa_cons (pe_callTy (cr_setOfT rfl hr.units) (by rfl) T.f_set (by decide +kernel) (pa_cons (pv 3) pa_nil)) pa_nil)) pa_nil)) (pa_cons (pe_d d_law_taken hr (by decide) rfl pass0 (pa_cons (pv 0) (pa_cons (pv 2) pa_nil))) pa_nil))))))))))))), ?_⟩
    refine ⟨_, rfl, _, rfl, _, _, rfl, rfl, c, r, 6, rfl, row, by decide, by decide, fun v0 H1 hv0 hv1 e1 row1 => ?_⟩
    have m1 : Mv c d.T r H H1 := Mv.of_eq tb row.row e1 row1
    refine ⟨_, _, rfl, rfl, ?_⟩
    obtain ⟨n, hn⟩ : ∃ n, 2 + v0 = n := ⟨_, rfl⟩
    show gName 2 (V.int (2 + v0)) _ _ _
    rw [hn]
    have hn2 : 2 ≤ n := by omega
    have hn7 : n ≤ 7 := by omega
    have hDr1 : ∀ {D : Addr}, H1 D = none → D ≠ r := fun z => row1.ne z
    refine ⟨_, rfl, 1, n, rfl, ⟨by decide, by decide, by omega, by omega⟩, fun D nD => ?_⟩
    refine lc_accR (c := c) (r := r) (walk_range (lo := 1) (n := (n - 1).toNat)) m1.tb row1 nD (fun _ _ => trivial) yfn_same (by omega)
      (fun i acc H' => ∃ ts : List (Int × Int), IntTups K H' acc (tl ts) ∧ ts.length = i ∧ ∀ (j : Nat) t, ts[j]? = some t → t.2 = 1 + (j : Int) ∧ 0 ≤ t.1 ∧ t.1 < t.2) (fun i acc H2 H3 g p => ?_) ⟨[], .nil, rfl, by simp⟩
      (fun i x H2 H3 acc Post hi go hD hacc hy gy hp => ?_) (fun H2 acc m2 e2 p2 _ => ?_)
    · obtain ⟨ts, a, b⟩ := p
      exact ⟨ts, a.go g, b⟩
    · obtain ⟨rfl, rfl⟩ := hy
      obtain ⟨ts, hts, hlen, hall⟩ := hacc
      have row2 : RowA K c H3 r := row.mv (m1.trans go)
      refine ⟨rfl, ?_⟩
      refine yes_ ?_
      refine ⟨_, rfl, _, rfl, _, rfl, c, r, 1 + (i : Int), rfl, row2, by omega, by omega, fun v H4 w0 w1 e4 row4 => ?_⟩
      have m4 : Mv c d.T r H3 H4 := Mv.of_eq gy.tb row2.row e4 row4
      refine ⟨(show (2 : Nat) ≤ sizeLine by decide), fun p5 n5 => ?_⟩
      have m5 := m4.then n5 (o := .lst [.int (1 + (i : Int)), .int v])
      refine ⟨p5, [1 + (i : Int), v], rfl, SqL.of upd_same, (show (2 : Nat) < 64 by decide), fun ns R perm srt nR => ?_⟩
      have ens := two_sorted (by omega) perm srt
      subst ens
      have m6 := m5.then nR (o := .lst ([v, 1 + (i : Int)].map V.int))
      refine ⟨R, [.int v, .int (1 + (i : Int))], rfl, Or.inl ⟨SqL.of upd_same, fun l nl => ?_⟩⟩
      have m7 := m6.then nl (o := .tup [.int v, .int (1 + (i : Int))])
      refine hp _ (some _) m7 ⟨ts ++ [(v, 1 + (i : Int))], ?_, by rw [List.length_append, hlen]; rfl, fun j t hj => ?_⟩
      · unfold tl
        rw [List.map_append]
        have hD6 := m6.lst (hDr1 nD) hD
        refine pd_app (hts.go (go_hid m7.go (m7.go.t0.no (a := D) (by rw [hid_ne (hDr1 nD)]; exact hD) fun _ z => by cases z))) (.cons ⟨l, rfl, tup_in upd_same (ne_of_none hD6 nl).symm (m6.row.ne nl)⟩ .nil)
      · by_cases hj2 : j < ts.length
        · rw [List.getElem?_append_left hj2] at hj
          exact hall j t hj
        · have : j = ts.length := by
            have := (List.getElem?_eq_some_iff.mp hj).1
            rw [List.length_append] at this
            simp at this
            omega
          subst this
          rw [List.getElem?_append_right (Nat.le_refl _), Nat.sub_self] at hj
          have := Option.some.inj hj
          subst this
          exact ⟨by rw [hlen], w0, w1⟩
    · obtain ⟨ts, hts, hlen, hall⟩ := p2
      have hDr := hDr1 nD
      have TP0 : TP n ts := by
        refine ⟨fun t ht => ?_, fun p h1 h2 => ?_⟩
        · obtain ⟨j, hj, e⟩ := List.getElem_of_mem ht
          have := hall j t (by rw [List.getElem?_eq_getElem hj, e])
          unfold TieOk
          omega
        · have hj : (p - 1).toNat < ts.length := by omega
          have := hall (p - 1).toNat ts[(p - 1).toNat] (List.getElem?_eq_getElem hj)
          refine ⟨ts[(p - 1).toNat].1, this.2.1, by omega, ?_⟩
          have e : (ts[(p - 1).toNat].1, p) = ts[(p - 1).toNat] := by
            refine Prod.ext rfl ?_
            show p = _
            omega
          rw [e]
          exact List.getElem_mem hj
      have nDH : H D = none := m1.free nD
      have mH2 : Mv c d.T r H H2 := m1.trans m2
      refine ⟨(show (0 : Nat) ≤ sizeLine by decide), fun pl0 npl => ?_⟩
      have mH3 := mH2.then npl (o := .lst [])
      have hDp : D ≠ pl0 := ne_of_none e2 npl
      have e3 : (upd H2 pl0 (.lst [])) D = some (.lst acc) := by rw [upd_ne hDp]; exact e2
      have hts3 : IntTups K (hid r (upd H2 pl0 (.lst []))) acc (tl ts) := hts.go (Mv.of_go m2.row (Go.new m2.tb npl)).go
      have nplH : H pl0 = none := mH2.free npl
      have ep : (upd H2 pl0 (.lst [])) pl0 = some (.lst []) := upd_same
      generalize upd H2 pl0 (.lst []) = H3 at mH3 e3 hts3 ep ⊢
      refine ⟨_, rfl, n, rfl, by omega, by omega, ?_⟩
      refine for_range (lo := 0) (n := n.toNat) (fun i σ H' => ∃ (pl : Addr) (xs : List V) (ps : List (Int × Int)) (w5 : Option V), σ = [some (.ref r), some (.int 7), some (.int n), some (.ref D), some (.ref pl), w5, none, none, none, none] ∧ Mv c d.T r H3 H' ∧
        H' pl = some (.lst xs) ∧ pl ≠ r ∧ IntTups K (hid r H') xs (tl ps) ∧ (∀ t ∈ ps, TieOk n t) ∧ ps.length ≤ 7 * i ∧ (0 < i → ps ≠ []) ∧ D ≠ pl) ⟨pl0, [], [], none, rfl, Mv.refl mH3.tb mH3.row, ep, row.row.ne nplH, .nil, by simp, by simp, by simp, hDp⟩ ?_ ?_
      · rintro i σ H4 hi ⟨pl, xs, ps, w5, rfl, m4, hpl, plr, hps, hok, hpn, hpne, hDpl⟩
        refine ⟨_, rfl, _, rfl, _, _, rfl, rfl, _, rfl, _, _, rfl, ⟨by omega, by omega, by omega, by omega⟩, fun D4 nD4 => ?_⟩
        refine lc_accR (c := c) (r := r) (walk_range (lo := 0 + (i : Int) + 1) (n := (n - (0 + (i : Int) + 1)).toNat)) m4.tb m4.row nD4 (fun _ _ => trivial) yfn_same (by omega)
          (fun j acc H' => ∃ qs : List (Int × Int), IntTups K H' acc (tl qs) ∧ qs.length = j ∧ ∀ t ∈ qs, TieOk n t) (fun j acc H5 H6 g p => ?_) ⟨[], .nil, rfl, by simp⟩
          (fun j x H5 H6 acc4 Post hj go hD4 hacc hy gy hp => ?_) (fun H5 acc4 m5 e5 p5 _ => ?_)
        · obtain ⟨ts, a, b⟩ := p
          exact ⟨ts, a.go g, b⟩
        · obtain ⟨rfl, rfl⟩ := hy
          obtain ⟨qs, hqs, hql, hqa⟩ := hacc
          refine ⟨rfl, ?_⟩
          refine yes_ ?_
          refine ⟨_, rfl, _, rfl, (show (2 : Nat) ≤ sizeLine by decide), fun l nl => ?_⟩
          have m7 := (Mv.refl gy.tb gy.row).then nl (o := .tup [.int (0 + (i : Int)), .int (0 + (i : Int) + 1 + (j : Int))])
          refine hp _ (some _) m7 ⟨qs ++ [(0 + (i : Int), 0 + (i : Int) + 1 + (j : Int))], ?_, by rw [List.length_append, hql]; rfl, fun t ht => ?_⟩
          · unfold tl
            rw [List.map_append]
            refine pd_app (hqs.go (go_hid m7.go (m7.go.t0.no (a := D4) (by rw [hid_ne (m4.row.ne nD4)]; exact hD4) fun _ z => by cases z))) (.cons ⟨l, rfl, tup_in upd_same (ne_of_none hD4 nl).symm (gy.row.ne nl)⟩ .nil)
          · rcases List.mem_append.mp ht with z | z
            · exact hqa t z
            · have : t = (0 + (i : Int), 0 + (i : Int) + 1 + (j : Int)) := by simpa using z
              rw [this]
              unfold TieOk
              simp only
              omega
        · obtain ⟨qs, hqs, hql, hqa⟩ := p5
          have hpl5 := m5.lst plr hpl
          have l1 : xs.length = ps.length := by
            have := hps.length
            unfold tl at this
            rwa [List.length_map] at this
          have l2 : acc4.length = qs.length := by
            have := hqs.length
            unfold tl at this
            rwa [List.length_map] at this
          refine ⟨pl, D4, xs, acc4, rfl, rfl, hpl5, e5, by rw [sizeLine_eq]; omega, fun p6 n6 => ?_⟩
          have m6 := (Mv.refl m5.tb m5.row).then n6 (o := .lst (xs ++ acc4))
          refine ⟨p6, xs ++ acc4, ps ++ qs, _, rfl, (m4.trans m5).trans m6, upd_same, m5.row.ne n6, ?_, fun t ht => ?_, ?_, fun _ => ?_, ne_of_none ((m4.trans m5).lst hDr e3) n6⟩
          · unfold tl
            rw [List.map_append]
            exact pd_app (hps.go (m5.trans m6).go) (hqs.go m6.go)
          · rcases List.mem_append.mp ht with z | z
            · exact hok t z
            · exact hqa t z
          · rw [List.length_append]
            omega
          · by_cases hi0 : 0 < i
            · have := hpne hi0
              intro z
              exact this (List.append_eq_nil_iff.mp z).1
            · intro z
              have := (List.append_eq_nil_iff.mp z).2
              rw [this] at hql
              simp at hql
              omega
      · rintro σ H4 ⟨pl, pxs, ps, w5, rfl, m4, hpl, plr, hps, hok, hpn, hpne, hDpl⟩
        have m04 := mH3.trans m4
        have row4 := row.mv m04
        refine ⟨_, rfl, c, r, 4, rfl, row4, by decide, by decide, fun way H5 hw0 hw1 e5 row5 => ?_⟩
        have m05 := m04.eqs e5 row5
        have hD4 := m4.lst hDr e3
        have m45 := (Mv.of_eq m04.tb m04.row e5 row5)
        have hD5 := m45.lst hDr hD4
        have hpl5 := m45.lst plr hpl
        have hps5 := hps.go m45.go
        have hts5 := (hts3.go m4.go).go m45.go
        have pne : ps ≠ [] := hpne (by omega)
        -- the loop that adds pairs, and what is behind it
        refine top_ ?_
        dsimp only
        refine nx_ ?_
        refine if_join (fun σ H' => ∃ t1 xs6 ts6 w5, σ = [some (.ref r), some (.int 7), some (.int n), some (.ref t1), some (.ref pl), w5, some (.int way), none, none, none] ∧ Mv c d.T r H H' ∧ H t1 = none ∧ t1 ≠ pl ∧ H' t1 = some (.lst xs6) ∧
          IntTups K (hid r H') xs6 (tl ts6) ∧ TP n ts6 ∧ ts6.length ≤ 7 ∧ H' pl = some (.lst pxs) ∧ IntTups K (hid r H') pxs (tl ps)) (fun join => ?_) ?_
        · refine ⟨_, rfl, rfl, decide (way = 0), ?_, ?_⟩
          · refine congrArg V.bl ?_
            rw [Bool.eq_iff_iff, decide_eq_true_eq, decide_eq_true_eq]
            exact ⟨V.int.inj, congrArg V.int⟩
          by_cases cw : way = 0
          · rw [decide_eq_true cw]
            refine iteT ⟨_, rfl, _, _, rfl, rfl, n - 1, rfl, by omega, by omega, fun D6 nD6 => ?_⟩
            refine lc_accR (c := c) (r := r) (walk_range (lo := 0) (n := (n - 1).toNat)) m05.tb m05.row nD6 (fun _ _ => trivial) yfn_same (by omega)
              (fun j acc H' => ∃ qs : List (Int × Int), IntTups K H' acc (tl qs) ∧ qs.length = j ∧ ∀ (k : Nat) t, qs[k]? = some t → t = ((k : Int), (k : Int) + 1)) (fun j acc H5 H6 g p => ?_) ⟨[], .nil, rfl, by simp⟩
              (fun j x H6 H7 acc6 Post hj go hD6 hacc hy gy hp => ?_) (fun H6 acc6 m6 e6 p6 _ => ?_)
            · obtain ⟨ts, a, b⟩ := p
              exact ⟨ts, a.go g, b⟩
            · obtain ⟨rfl, rfl⟩ := hy
              obtain ⟨qs, hqs, hql, hqa⟩ := hacc
              refine ⟨rfl, ?_⟩
              refine yes_ ?_
              refine ⟨_, rfl, _, rfl, _, _, rfl, rfl, (show (2 : Nat) ≤ sizeLine by decide), fun l nl => ?_⟩
              have m7 := (Mv.refl gy.tb gy.row).then nl (o := .tup [.int (0 + (j : Int)), .int (0 + (j : Int) + 1)])
              refine hp _ (some _) m7 ⟨qs ++ [((j : Int), (j : Int) + 1)], ?_, by rw [List.length_append, hql]; rfl, fun k t ht => ?_⟩
              · unfold tl
                rw [List.map_append]
                refine pd_app (hqs.go (go_hid m7.go (m7.go.t0.no (a := D6) (by rw [hid_ne (m05.row.ne nD6)]; exact hD6) fun _ z => by cases z))) (.cons ⟨l, rfl, ?_⟩ .nil)
                have := tup_in (K := K) (r := r) (D := D6) (xs := [.int (0 + (j : Int)), .int (0 + (j : Int) + 1)]) (upd_same (H := H7)) (ne_of_none hD6 nl).symm (gy.row.ne nl)
                have ej : [V.int (j : Int), V.int ((j : Int) + 1)] = [V.int (0 + (j : Int)), V.int (0 + (j : Int) + 1)] := by rw [Int.zero_add]
                show SqT K _ l [V.int (j : Int), V.int ((j : Int) + 1)]
                rw [ej]
                exact this
              · by_cases hk : k < qs.length
                · rw [List.getElem?_append_left hk] at ht
                  exact hqa k t ht
                · have : k = qs.length := by
                    have := (List.getElem?_eq_some_iff.mp ht).1
                    rw [List.length_append] at this
                    simp at this
                    omega
                  subst this
                  rw [List.getElem?_append_right (Nat.le_refl _), Nat.sub_self] at ht
                  have := Option.some.inj ht
                  rw [← this, hql]
            · obtain ⟨qs, hqs, hql, hqa⟩ := p6
              have l2 : acc6.length = qs.length := by
                have := hqs.length
                unfold tl at this
                rwa [List.length_map] at this
              refine ⟨_, rfl, _, _, rfl, rfl, (show (2 : Nat) ≤ sizeLine by decide), fun l7 nl7 => ⟨(show (1 : Nat) ≤ sizeLine by decide), fun p8 n8 => ?_⟩⟩
              have m7 := (Mv.refl m6.tb m6.row).then nl7 (o := .tup [.int 0, .int (n - 1)])
              have m8 := m7.then n8 (o := .lst [.ref l7])
              have h7 : l7 ≠ p8 := ne_of_none upd_same n8
              refine ⟨D6, p8, acc6, [.ref l7], rfl, rfl, m8.lst (m05.row.ne nD6) e6, upd_same, by rw [sizeLine_eq]; simp; omega, fun p9 n9 => ?_⟩
              have m9 := m8.then n9 (o := .lst (acc6 ++ [.ref l7]))
              have m69 := m6.trans m9
              have mAll := m05.trans m69
              have hpl9 := m69.lst plr hpl5
              refine join _ _ ⟨p9, _, qs ++ [(0, n - 1)], _, rfl, mAll, ?_, fun z => ?_, upd_same, ?_, ⟨fun t ht => ?_, fun p h1 h2 => ?_⟩, ?_, hpl9, hps5.go m69.go⟩
              · exact (m05.trans (m6.trans m8)).free n9
              · have := (m6.trans m8).lst plr hpl5
                rw [← z, n9] at this
                cases this
              · unfold tl
                rw [List.map_append]
                refine pd_app (hqs.go m9.go) (.cons ⟨l7, rfl, .inl (.inl ?_)⟩ .nil)
                rw [hid_ne (m6.row.ne nl7), upd_ne (fun z => by rw [← z, upd_ne h7, upd_same] at n9; cases n9), upd_ne h7]
                exact upd_same
              · rcases List.mem_append.mp ht with z | z
                · obtain ⟨k, hk, e⟩ := List.getElem_of_mem z
                  have := hqa k t (by rw [List.getElem?_eq_getElem hk, e])
                  rw [this]
                  unfold TieOk
                  simp only
                  omega
                · have : t = (0, n - 1) := by simpa using z
                  rw [this]
                  unfold TieOk
                  simp only
                  omega
              · have hk : (p - 1).toNat < qs.length := by omega
                have := hqa (p - 1).toNat qs[(p - 1).toNat] (List.getElem?_eq_getElem hk)
                refine ⟨p - 1, by omega, by omega, List.mem_append_left _ ?_⟩
                have e : (p - 1, p) = qs[(p - 1).toNat] := by
                  rw [this]
                  refine Prod.ext ?_ ?_
                  · show p - 1 = _
                    omega
                  · show p = _
                    omega
                rw [e]
                exact List.getElem_mem hk
              · rw [List.length_append]
                simp
                omega
          · rw [decide_eq_false cw]
            refine iteF (join _ _ ⟨D, acc, ts, _, rfl, m05, nDH, hDpl, hD5, hts5, TP0, by omega, hpl5, hps5⟩)
        · rintro σ H6 ⟨t1, xs6, ts6, w5', rfl, m6, nt1, t1pl, ht1, hts6, tp6, tl6, hpl6, hps6⟩
          have t1r : t1 ≠ r := row.row.ne nt1
          have psn : 1 ≤ ps.length := List.length_pos_iff.mpr pne
          have pxl : pxs.length = ps.length := by
            have := hps6.length
            unfold tl at this
            rwa [List.length_map] at this
          -- the loop that adds pairs
          have loop : ∀ (H7 : Hp) (D' : Ends) (rest : TS) (m : Nat), m ≤ 3 → Mv c d.T r H H7 → H7 t1 = some (.lst xs6) → IntTups K (hid r H7) xs6 (tl ts6) → H7 pl = some (.lst pxs) → IntTups K (hid r H7) pxs (tl ps) →
              (∀ w7 H8 xs8 ts8, Mv c d.T r H H8 → H8 t1 = some (.lst xs8) → IntTups K (hid r H8) xs8 (tl ts8) → TP n ts8 → ts8.length ≤ 10 → rest D' [some (.ref r), some (.int 7), some (.int n), some (.ref t1), some (.ref pl), w5', some (.int way), w7, none, none] H8) →
              ∃ W : Nat → Nat → L2.St → Hp → Prop, (∃ k, W 0 k [some (.ref r), some (.int 7), some (.int n), some (.ref t1), some (.ref pl), w5', some (.int way), none, none, none] H7) ∧ ∀ i k σ H, W i k σ H →
                ((Itr 0 m).stop i H ∧ rest D' σ H) ∨ ((Itr 0 m).go i H ∧ ∃ N : L2.St → Hp → Prop, (∀ σ' H', N σ' H' → ∃ m', m' < k ∧ W (i + 1) m' σ' H') ∧ ∀ x H', (Itr 0 m).yld i H x H' → gName 7 x σ H' fun σ2 H2 =>
                  tDrop (tBM K "list" rAppend (tVar 3) (tCons (tCall (spLPick K) [] E0 (tCons (tVar 0) (tCons (tVar 4) tNil))) tNil)) { D' with nx := N, ct := N, bk := rest D' } σ2 H2) := by
            intro H7 D' rest m hm m7 ht7 hts7 hpl7 hps7 fin
            refine for_range (D := { D' with nx := rest D' }) (lo := 0) (n := m) (fun i σ H8 => ∃ w7 xs8 ts8, σ = [some (.ref r), some (.int 7), some (.int n), some (.ref t1), some (.ref pl), w5', some (.int way), w7, none, none] ∧ Mv c d.T r H H8 ∧ H8 t1 = some (.lst xs8) ∧ IntTups K (hid r H8) xs8 (tl ts8) ∧ TP n ts8 ∧ ts8.length ≤ 7 + i ∧
              H8 pl = some (.lst pxs) ∧ IntTups K (hid r H8) pxs (tl ps)) ⟨none, xs6, ts6, rfl, m7, ht7, hts7, tp6, by omega, hpl7, hps7⟩ ?_ ?_
            · rintro i σ H8 hi ⟨w7, xs8, ts8, rfl, m8, ht8, hts8, tp8, tl8, hpl8, hps8⟩
              have row8 := row.mv m8
              refine ⟨_, rfl, Or.inl ⟨rfl, _, SqL.of ht8⟩, _, rfl, _, rfl, c, r, pl, pxs, rfl, row8, SqL.of (by rw [hid_ne plr]; exact hpl8), by omega, by omega, fun k v H9 hk e9 row9 => ?_⟩
              have m89 := Mv.of_eq m8.tb m8.row e9 row9
              have ht9 := m89.lst t1r ht8
              have hpl9 := m89.lst plr hpl8
              have hts9 := hts8.go m89.go
              have hps9 := hps8.go m89.go
              obtain ⟨ns, hns, pv, rfl, hpv⟩ := pd_get hps9 hk
              unfold tl at hns
              rw [List.getElem?_map] at hns
              cases ek : ps[k]? with
              | none => rw [ek] at hns; cases hns
              | some tk =>
                rw [ek] at hns
                have ens : ns = [tk.1, tk.2] := (Option.some.inj hns).symm
                subst ens
                have okk := hok tk (List.mem_of_getElem? ek)
                have xl8 : xs8.length = ts8.length := by
                  have := hts9.length
                  unfold tl at this
                  rwa [List.length_map] at this
                refine ⟨t1, _, _, rfl, rfl, ht9, by rw [sizeLine_eq]; omega, ?_⟩
                have htr : (hid r H9) t1 = some (.lst xs8) := by rw [hid_ne t1r]; exact ht9
                have m10 : Mv c d.T r H (upd H9 t1 (.lst (xs8 ++ [.ref pv]))) := (m8.trans m89).put nt1 t1r
                refine ⟨_, xs8 ++ [.ref pv], ts8 ++ [tk], rfl, m10, upd_same, ?_, tp8.add okk, by rw [List.length_append]; simp; omega, by rw [upd_ne (Ne.symm t1pl)]; exact hpl9, ?_⟩
                · rw [hid_put t1r]
                  unfold tl
                  rw [List.map_append]
                  exact pd_app (hts9.put htr) (.cons ⟨pv, rfl, sqT_upd htr hpv⟩ .nil)
                · rw [hid_put t1r]
                  exact hps9.put htr
            · rintro σ H8 ⟨w7, xs8, ts8, rfl, m8, ht8, hts8, tp8, tl8, hpl8, hps8⟩
              exact fin w7 H8 xs8 ts8 m8 ht8 hts8 tp8 (by omega)
          have cnt : ∀ (Q' : VK), (∀ (m : Int) H7, 0 ≤ m → m ≤ 3 → hid r H7 = hid r H6 → RowL c H7 r → Q' (.int m) H7) → tIf (tTest (tOp (rI0 fun i j => .bl (decide (i < j))) (tVar 6) (tC (.int 3)))) (tCall (spLTaken K) [] E0 (tCons (tVar 0) (tCons (tC (.int 4)) tNil))) (tC (.int 0))
              [some (.ref r), some (.int 7), some (.int n), some (.ref t1), some (.ref pl), w5', some (.int way), none, none, none] H6 Q' := fun Q' hq => by
            refine ⟨_, rfl, _, _, rfl, rfl, decide (way < 3), rfl, ?_⟩
            by_cases c3 : way < 3
            · rw [decide_eq_true c3]
              exact iteT ⟨_, rfl, c, r, 4, rfl, row.mv m6, by decide, by decide, fun m H7 w0 w1 e7 row7 => hq m H7 w0 (by omega) e7 row7⟩
            · rw [decide_eq_false c3]
              exact iteF (hq 0 H6 (by omega) (by omega) rfl m6.row)
          refine cnt _ fun m H7 hm0 hm3 e7 row7 => ?_
          have m67 := Mv.of_eq m6.tb m6.row e7 row7
          refine ⟨m, rfl, by omega, by omega, ?_⟩
          refine loop H7 _ _ m.toNat (by omega) (m6.trans m67) (m67.lst t1r ht1) (hts6.go m67.go) (m67.lst plr hpl6) (hps6.go m67.go) fun w7 H8 xs8 ts8 m8 ht8 hts8 tp8 tl8 => ?_
          -- the ties in order, each once
          obtain ⟨ks, rfl, eks, hks⟩ := tups_ks hts8
          have ksl : ks.length = ts8.length := by
            have := congrArg List.length eks
            unfold tl at this
            simpa using this.symm
          have ksm : ∀ p ∈ ks, ∃ t ∈ ts8, p.2 = [t.1, t.2] := fun p hp => by
            have h9 : p.2 ∈ ks.map (·.2) := List.mem_map.mpr ⟨p, hp, rfl⟩
            rw [← eks] at h9
            unfold tl at h9
            obtain ⟨t, ht, e⟩ := List.mem_map.mp h9
            exact ⟨t, ht, e.symm⟩
          refine ⟨_, rfl, _, rfl, t1, ks, rfl, SqL.of ht8, fun p hp => SqT.up (r := r) (hks p hp), by omega, fun a9 L9 n9 hL1 hL2 => ?_⟩
          have m9 := fun o => (Mv.refl m8.tb m8.row).then (o := o) n9
          refine ⟨a9, L9, 2, 64, rfl, upd_same, fun p hp => ?_, by decide, fun p hp => ?_, fun L' p10 perm nd lt64 pw n10 => ?_⟩
          · exact (Go.new (t00 _) n9).st (SqT.up (r := r) (hks p (hL1 p hp)))
          · obtain ⟨t, ht, e⟩ := ksm p (hL1 p hp)
            have := tp8.ok t ht
            unfold TieOk at this
            refine ⟨by rw [e]; rfl, fun z hz => ?_⟩
            rw [e] at hz
            simp at hz
            rcases hz with rfl | rfl <;> omega
          have m10 := (m9 _).then n10 (o := .lst (L'.map fun q => V.ref q.1))
          refine ⟨p10, _, rfl, Or.inl ⟨SqL.of upd_same, fun p11 n11 => ?_⟩⟩
          have m11 := m10.then n11 (o := .tup (L'.map fun q => V.ref q.1))
          refine ⟨_, rfl, _, rfl, c, r, n, rfl, (row.mv m8).mv m11, by omega, by omega, fun gate H12 hg0 hg1 e12 row12 => ?_⟩
          have m12 := m11.eqs e12 row12
          refine ⟨(show (3 : Nat) ≤ sizeLine by decide), fun p13 n13 => ?_⟩
          have m13 := m12.then n13 (o := .tup [.int n, .ref p11, .int gate])
          let ts' : List (Int × Int) := L'.map fun q => (q.2.getD 0 0, q.2.getD 1 0)
          have hL' : ∀ q ∈ L', ∃ t ∈ ts8, q.2 = [t.1, t.2] := fun q hq => ksm q (hL1 q (perm.mem_iff.mp hq))
          have e' : L'.map (·.2) = tl ts' := by
            unfold tl
            rw [List.map_map]
            refine List.map_congr_left fun q hq => ?_
            obtain ⟨t, _, e⟩ := hL' q hq
            show q.2 = [q.2.getD 0 0, q.2.getD 1 0]
            rw [e]
            rfl
          have mem' : ∀ t : Int × Int, t ∈ ts' ↔ t ∈ ts8 := fun t => by
            constructor
            · intro h
              obtain ⟨q, hq, rfl⟩ := List.mem_map.mp h
              obtain ⟨t, ht, e⟩ := hL' q hq
              rw [e]
              exact ht
            · intro h
              have h1 : [t.1, t.2] ∈ ks.map (·.2) := by
                rw [← eks]
                exact List.mem_map.mpr ⟨t, h, rfl⟩
              obtain ⟨p, hp, e⟩ := List.mem_map.mp h1
              have h2 := hL2 p hp
              rw [e] at h2
              obtain ⟨q, hq, e2⟩ := List.mem_map.mp h2
              refine List.mem_map.mpr ⟨q, perm.mem_iff.mpr hq, ?_⟩
              rw [e2]
              rfl
          have vy : VY ⟨n, ts', gate⟩ := by
            refine ⟨hn2, hn7, fun t ht => tp8.ok t ((mem' t).mp ht), ?_, ?_, hg0, (by show gate ≤ n - 1; omega)⟩
            · have nd2 : L'.Pairwise (fun q r => q.2 ≠ r.2) := by
                rw [List.nodup_iff_pairwise_ne, List.pairwise_map] at nd
                exact nd
              rw [List.pairwise_map]
              refine (pw.and nd2).imp_of_mem fun {q s} hq hs h => ?_
              obtain ⟨t, ht, e⟩ := hL' q hq
              obtain ⟨u, hu, e3⟩ := hL' s hs
              obtain ⟨h1, h2⟩ := h
              rw [e, e3] at h1 h2
              have k1 := tp8.ok t ht
              have k2 := tp8.ok u hu
              unfold TieOk at k1 k2
              have := pair_lt h1 h2 ⟨by omega, by omega⟩ ⟨by omega, by omega⟩ ⟨by omega, by omega⟩ ⟨by omega, by omega⟩
              show ltP (q.2.getD 0 0, q.2.getD 1 0) (s.2.getD 0 0, s.2.getD 1 0)
              rw [e, e3]
              exact this
            · refine tree_conn (by show (0 : Int) < n; omega) (fun t ht => tp8.ok t ((mem' t).mp ht)) fun p h1 h2 => ?_
              obtain ⟨q', a, b, m⟩ := tp8.tree p h1 h2
              exact ⟨q', a, b, (mem' _).mpr m⟩
          have hL11 : IntTups K (hid r (upd H12 p13 (.tup [.int n, .ref p11, .int gate]))) (L'.map fun q => V.ref q.1) (tl ts') := by
            rw [← e']
            have : ∀ (M : List (Addr × List Int)), (∀ q ∈ M, SqT K (hid r (upd H12 p13 (.tup [.int n, .ref p11, .int gate]))) q.1 (q.2.map V.int)) → IntTups K (hid r (upd H12 p13 (.tup [.int n, .ref p11, .int gate]))) (M.map fun q => V.ref q.1) (M.map (·.2)) := fun M => by
              induction M with
              | nil => intro _; exact .nil
              | cons q M ih =>
                intro h
                exact .cons ⟨q.1, rfl, h q (by simp)⟩ (ih fun z hz => h z (List.mem_cons_of_mem _ hz))
            exact this L' fun q hq => m13.go.st (hks q (hL1 q (perm.mem_iff.mp hq)))
          have T13 : SqT K (hid r (upd H12 p13 (.tup [.int n, .ref p11, .int gate]))) p13 [.int n, .ref p11, .int gate] := .inl (.inl (by rw [hid_ne (m12.row.ne n13)]; exact upd_same))
          have T11 : SqT K (hid r (upd H12 p13 (.tup [.int n, .ref p11, .int gate]))) p11 (L'.map fun q => V.ref q.1) := by
            refine .inl (.inl ?_)
            rw [hid_put (m12.row.ne n13)]
            have hp11 : (hid r H12) p11 = some (.tup (L'.map fun q => V.ref q.1)) := by
              rw [e12, hid_ne (m10.row.ne n11)]
              exact upd_same
            rw [upd_ne (ne_of_none hp11 (by rw [hid_ne (m12.row.ne n13)]; exact n13))]
            exact hp11
          exact q ⟨n, ts', gate⟩ _ _ vy (m8.trans m13) (.tup T13 (.cons (.int _) (.cons (.tup T11 (dp_ties hL11)) (.cons (.int _) .nil))))
end
end HK
set_option Elab.async false
set_option linter.all false
set_option maxRecDepth 100000
/-! tuple.count(None). -/
namespace HK
open PySem PySem.Spec PyProof.Rows L2 SX
def rTCnt (K : PySem.W.Frag) : V → List V → Hp → VK → Prop := fun x xs H Q => ∃ (p : Addr) (st : List (Option Int)), x = .ref p ∧ xs = [.non] ∧ SqT K H p (st.map bookV) ∧ Q (.int ((st.count none : Nat) : Int)) H
theorem plain_stand : ∀ st : List (Option Int), PyData.plainAll (st.map bookD) = true
  | [] => rfl
  | none :: st => plain_stand st
  | some _ :: st => plain_stand st
theorem cnt_stand : ∀ st : List (Option Int), (st.map bookD).countP (fun y => PyData.eqv y .none) = st.count none
  | [] => rfl
  | none :: st => by
    rw [List.map_cons, List.countP_cons_of_pos (by rfl), cnt_stand st, List.count_cons_self]
  | some n :: st => by
    rw [List.map_cons, List.countP_cons_of_neg (by intro z; cases z), cnt_stand st, List.count_cons_of_ne (by intro z; cases z)]
section
variable {X : Cx}
theorem mt_tcnt (hu : X.A.units + 64 < cLine) : MtR X "tuple.count" (rTCnt X.K) := by
  intro pins s σ H x xs v us Q I rx rv h
  obtain ⟨p, st, rfl, rfl, hp, q⟩ := h
  cases rx
  obtain ⟨u, rfl, ru⟩ := rv.one
  cases ru
  obtain ⟨its, rt, il, _⟩ := I.tuple hp
  obtain ⟨as, rs⟩ := Dp.readsAll I _ _ _ (stand_all st) rt
  refine SeqAt.count_tuple_data il (vs := its.toArray) (by simpa using rs) Reads.none (plain_stand st) rfl ?_ ?_
  · have : min (PyData.depthAll (st.map bookD)) PyData.none.depth = 0 := Nat.le_zero.mp (Nat.min_le_right _ _)
    rw [this]
    omega
  · rw [cnt_stand]
    exact ⟨.int _, H, I.tok _, ⟨_, rfl⟩, q⟩
theorem mt_tcntK (K : PySem.W.Frag) (hK : X.K = K) (hu : X.A.units + 64 < cLine) : MtR X "tuple.count" (rTCnt K) := by
  subst hK
  exact mt_tcnt hu
end
end HK
set_option Elab.async false
set_option linter.all false
set_option maxRecDepth 100000
set_option maxHeartbeats 1000000
/-! tuple(list): a new tuple whose object is known; its count. -/
namespace HK
open PySem PySem.Spec PyProof.Rows L2 SX
/-- a new tuple, its object known -/
def FzT (H : Hp) (a : Addr) (xs : List V) : Prop := ∃ o : Obj, H a = some (.frz o (.tup xs)) ∧ o.cls = .type "tuple" ∧ o.dict = none
theorem FzT.sq {K : PySem.W.Frag} {H : Hp} {a : Addr} {xs : List V} (h : FzT H a xs) : SqT K H a xs := by
  obtain ⟨o, h, _⟩ := h
  exact .inl (.inr ⟨o, h⟩)
theorem FzT.go {T : List Addr} {H H1 : Hp} {a : Addr} {xs : List V} (g : Go T H H1) (h : FzT H a xs) : FzT H1 a xs := by
  obtain ⟨o, h, k⟩ := h
  exact ⟨o, g.at h (fun _ z => by cases z), k⟩
def rTupF (K : PySem.W.Frag) : List V → Hp → VK → Prop := fun xs H Q => ∃ p ys, xs = [.ref p] ∧ SqL K H p ys ∧ ∀ l (o : Obj), H l = none → o.cls = .type "tuple" → o.dict = none → Q (.ref l) (upd H l (.frz o (.tup ys)))
section
variable {X : Cx}
theorem call_tupF : CallR X (.type "tuple") (rTupF X.K) := by
  intro pins s σ H xs us Q I r h
  obtain ⟨p, ys, rfl, hq, q⟩ := h
  obtain ⟨u, rfl, rx⟩ := vals1 r
  cases rx
  obtain ⟨its, rv, pl, hz⟩ := I.list hq
  have hlen := rv.length
  refine call_tuple_list pl.isList (fun h' kp => ?_) (by rw [List.size_toArray]; omega)
  have I1 : Inv X pins σ H { s with heap := h' } := I.kept (t' := s.toks) kp
  have I2 := I1.laid (a := h'.objs.size) (o := .frz { cls := .type "tuple", data := .seq its.toArray } (.tup ys)) (h' := h'.push { cls := .type "tuple", data := .seq its.toArray }) (t' := s.toks) (fun b o e => Heap.get?_push_of_some _ e) (Nat.le_refl _)
    ⟨Heap.get?_push_size _ rfl, hz, its, rv, IsTup.new _ _⟩
  exact ⟨.ref h'.objs.size, _, I2, rfl, q _ _ (I1.hok.fresh (Nat.le_refl _)) rfl rfl⟩
theorem call_tupFK (K : PySem.W.Frag) (hK : X.K = K) : CallR X (.type "tuple") (rTupF K) := by
  subst hK
  exact call_tupF
/-- t.count(None), t such a tuple of books -/
def tTCnt (to : TE) : TE := fun σ H Q => to σ H fun x H1 => ∃ (p : Addr) (st : List (Option Int)), x = .ref p ∧ FzT H1 p (st.map bookV) ∧ Q (.int ((st.count none : Nat) : Int)) H1
theorem pe_tcnt {o : Expr} {to : TE} {j : Nat} {apos cpos p1 : Pos} (K : PySem.W.Frag) (hu : X.A.units + 64 < cLine) (ho : PE X o to) (hbase : attributeBase o "count" X.env (eval o X.env) = eval o X.env := by rfl)
    (hfew : ((backTo cpos (starEach [.Constant .none j p1] X.env)).all (fun x => !x.1) && (backToKw cpos (keywordEach [] X.env)).all (fun x => x.1.isSome)
      && decide (([Expr.Constant .none j p1]).length + ([] : List Keyword).length + (if ([] : List Keyword).isEmpty then 0 else 1) < 30)) = true := by rfl)
    (hline : (apos.endLine == cpos.line) = true := by rfl) : PE X (.Call (.Attribute o "count" apos) [.Constant .none j p1] [] cpos) (tTCnt to) := by
  refine ⟨fun pins s σ H Q I h => ?_⟩
  refine wpAny_Call_method_late hbase hfew hline rfl (thn (ho.run pins s σ H _ I h) fun v s1 ⟨x, H1, I1, r1, p, st, ex, hz, q1⟩ => ?_)
  subst ex
  cases r1
  obtain ⟨ob, e, hc, hd⟩ := id hz
  have hob : s1.heap.get? p = some ob := (I1.hok p _ e).1
  refine ⟨"tuple", "tuple.count", PySem.F.plainAttrs_tuple, PySem.F.slot_tuple_count, PySem.F.type_tuple_count, ⟨ob, hob, hc⟩, fun a ea => ?_, ?_⟩
  · cases ea
    exact ⟨ob, hob, hd⟩
  · have hA := (pa_cons (X := X) (pe_non (X := X) (j := j) (pos := p1)) pa_nil).run cpos pins s1 σ H1 (fun xs H2 => xs = [.non] ∧ H2 = H1) I1 ⟨rfl, rfl⟩
    refine Calls.callWith_builtin rfl (Calls.evalArgs_plain ?_)
    refine thn hA fun us s2 ⟨vs, H2, I2, r2, e1, e2⟩ => ?_
    subst e1
    subst e2
    exact mt_tcnt hu pins s2 σ _ (.ref p) [.non] (.ref p) us Q I2 rfl r2 ⟨p, st, rfl, rfl, FzT.sq hz, q1⟩
end
end HK
set_option Elab.async false
set_option linter.all false
set_option maxRecDepth 100000
set_option maxHeartbeats 2000000
namespace HK
open PySem PySem.Spec PyProof.Rows L2 SX
def base0 (k h : Nat) : List (Option Int) := (List.range k).map (fun j : Nat => some (j : Int)) ++ List.replicate h none
theorem books_base (k h : Nat) : booksL (base0 k h) = (List.range k).map fun (j : Nat) => (j : Int) := by
  unfold booksL base0
  rw [List.filterMap_append, List.filterMap_map]
  have e : (List.replicate h (none : Option Int)).filterMap id = [] := by
    rw [List.filterMap_eq_nil_iff]
    intro a ha
    exact (List.mem_replicate.mp ha).2
  rw [e, List.append_nil]
  exact map_filterMap_some _ _
theorem vs_perm {n : Int} {k h : Nat} {st : List (Option Int)} (hn : n = (k : Int) + (h : Int)) (hk : 1 ≤ k) (hh : 1 ≤ h) (h7 : n ≤ 7) (p : st.Perm (base0 k h)) : VS n st := by
  have pb : (booksL st).Perm ((List.range k).map fun (j : Nat) => (j : Int)) := by
    rw [← books_base k h]
    exact p.filterMap _
  have bl : (booksL st).length = k := by
    rw [pb.length_eq, List.length_map, List.length_range]
  have sl : st.length = k + h := by
    rw [p.length_eq]
    unfold base0
    rw [List.length_append, List.length_map, List.length_range, List.length_replicate]
  refine ⟨by omega, h7, by omega, fun z => ?_, ?_, ?_, fun b hb => ?_⟩
  · rw [z] at bl
    simp at bl
    omega
  · rw [p.mem_iff]
    unfold base0
    exact List.mem_append_right _ (List.mem_replicate.mpr ⟨by omega, rfl⟩)
  · rw [pb.nodup_iff, List.nodup_iff_pairwise_ne, List.pairwise_map]
    have := @List.nodup_range k
    rw [List.nodup_iff_pairwise_ne] at this
    exact this.imp fun {a b} hab z => hab (by omega)
  · rw [pb.mem_iff] at hb
    obtain ⟨j, hj, rfl⟩ := List.mem_map.mp hb
    have := List.mem_range.mp hj
    omega
theorem perm_pop {α : Type} {acc left : List α} {i : Nat} {x : α} (h : left[i]? = some x) : ((acc ++ [x]) ++ left.eraseIdx i).Perm (acc ++ left) := by
  rw [List.append_assoc]
  refine List.Perm.append_left acc ?_
  obtain ⟨hi, e⟩ := List.getElem?_eq_some_iff.mp h
  have e2 : left = left.take i ++ x :: left.drop (i + 1) := by
    rw [← e, ← List.drop_eq_getElem_cons hi, List.take_append_drop]
  have e3 : left.eraseIdx i = left.take i ++ left.drop (i + 1) := List.eraseIdx_eq_take_drop_succ ..
  rw [e3]
  conv => rhs; rw [e2]
  exact (List.perm_middle (l₁ := left.take i) (a := x) (l₂ := left.drop (i + 1))).symm
theorem ixn {n j : Nat} (hj : j < n) : ixN n (j : Int) = some j := by
  unfold ixN
  rw [if_pos (by omega), if_pos (by omega)]
  rfl
theorem erase_map {α β : Type} (f : α → β) (l : List α) (i : Nat) : (l.map f).eraseIdx i = (l.eraseIdx i).map f := by
  rw [List.eraseIdx_eq_take_drop_succ, List.eraseIdx_eq_take_drop_succ, List.map_append, List.map_take, List.map_drop]
section
variable {P : Program} {w : World} {K : PySem.W.Frag} {mg : Str → Option Value} {base : Heap} {d : Ad}
def spLStand (K : PySem.W.Frag) (d : Ad) : Sp := fun vs H Q _ => ∃ (c : Scr) (r : Addr) (n h : Int), vs = [.ref r, .int n, .int h] ∧ RowA K c H r ∧ Tb d.T H ∧ n ≤ 7 ∧ 1 ≤ h ∧ h ≤ n - 1 ∧ ∀ (st : List (Option Int)) (v : V) H', VS n st → Mv c d.T r H H' → Dp K (hid r H') v (standD st) → (∃ p, v = .ref p ∧ FzT (hid r H') p (st.map bookV)) → Q v H'
theorem dk_law_standing (T : Tx K mg d) : DK P w K mg base CX0 2 "_law_standing" (spLStand K d) := by
  have d_law_taken : DK P w K mg base CX0 1 "_law_taken" (spLTaken K) := dk_law_taken T
  refine T.d_law_standing.dk0 sc_law_standing (fun vs H Q E h => ?_) fun f cdv A outer s H vs Q E hr h => ?_
  · obtain ⟨_, _, _, _, rfl, _⟩ := h
    rfl
  · obtain ⟨c, r, n, h, rfl, row, tb, hn7, hh1, hhn, q⟩ := h
    refine ⟨_, (pss_cons (ps_par (i := 3) (j := 4) (by rfl) sc_law_standing.nd rfl rfl (by decide) rfl rfl (pa_cons (pe_op op_cat (pe_listRg rfl (by rfl) T.f_list (prg_1 (by rfl) T.f_range (pe_op op_sub (pv 1) (pv 2)))) (pe_op op_rep (pe_lst (pa_cons pe_non pa_nil)) (pv 2))) (pa_cons (pe_lst pa_nil) pa_nil)) (by rfl))
    (pss_cons (ps_for PassesOwn.never rfl (pi_range1 (by rfl) T.f_range (pa_cons (pv 1) pa_nil)) (pg_name (i := 5) sc_law_standing.nd rfl (Or.inl rfl))
      (pss_one (ps_expr (pe_bm PySem.F.plainAttrs_list PySem.F.slot_list_append PySem.F.type_list_append mt_append (pv 4) (pa_cons (pe_bm PySem.F.plainAttrs_list PySem.F.slot_list_pop PySem.F.type_list_pop mt_popAt (pv 3) (pa_cons (pe_d d_law_taken hr (by decide) rfl pass0 (pa_cons (pv 0) (pa_cons (pe_callB (call_lenK K rfl) (by rfl) T.f_len (by decide +kernel) (pa_cons (pv 3) pa_nil)) pa_nil))) pa_nil)) pa_nil)))))
    (pss_one (ps_ret (pe_callTy (call_tupFK K rfl) (by rfl) T.f_tuple (by decide +kernel) (pa_cons (pv 4) pa_nil)))))), ?_⟩
    refine ⟨_, rfl, _, rfl, _, _, rfl, rfl, ?_⟩
    obtain ⟨k, hk⟩ : ∃ k : Nat, n - h = (k : Int) := ⟨(n - h).toNat, by omega⟩
    obtain ⟨h', hh'⟩ : ∃ h' : Nat, h = (h' : Int) := ⟨h.toNat, by omega⟩
    refine ⟨n - h, rfl, ⟨by omega, by omega, by omega, by omega, by omega⟩, fun p1 n1 => ⟨(show (1 : Nat) ≤ sizeLine by decide), fun p2 n2 => ⟨_, rfl, p2, h, [.non], rfl, rfl, upd_same, by omega, by omega, by rw [sizeLine_eq]; simp; omega, fun p3 n3 => ?_⟩⟩⟩
    have m0 := Mv.refl tb row.row
    have m1 := m0.then n1 (o := .lst (rgV 0 (n - h)))
    have m2 := m1.then n2 (o := .lst [.non])
    have m3 := m2.then n3 (o := .lst (List.replicate h.toNat [V.non]).flatten)
    have h12 : p1 ≠ p2 := ne_of_none upd_same n2
    have h13 : p1 ≠ p3 := fun z => by
      rw [← z, upd_ne h12, upd_same] at n3
      cases n3
    refine ⟨p1, p3, rgV 0 (n - h), (List.replicate h.toNat [V.non]).flatten, rfl, rfl, ?_, upd_same, ?_, fun p4 n4 => ?_⟩
    · rw [upd_ne h13, upd_ne h12]
      exact upd_same
    · rw [rgV_length, List.length_flatten, sizeLine_eq]
      simp
      omega
    have elist : rgV 0 (n - h) ++ (List.replicate h.toNat [V.non]).flatten = (base0 k h').map bookV := by
      unfold base0 rgV
      rw [List.map_append, List.map_map, List.map_replicate]
      congr 1
      · rw [show (n - h - 0).toNat = k by omega]
        refine List.map_congr_left fun j _ => ?_
        show V.int (0 + (j : Int)) = V.int (j : Int)
        rw [Int.zero_add]
      · rw [hh']
        show (List.replicate ((h' : Int)).toNat [V.non]).flatten = _
        rw [Int.toNat_natCast]
        clear hh'
        induction h' with
        | zero => rfl
        | succ m ih =>
          rw [List.replicate_succ, List.flatten_cons, List.replicate_succ, ih]
          rfl
    rw [elist]
    refine ⟨(show (0 : Nat) ≤ sizeLine by decide), fun b nb => ⟨_, _, rfl, ?_⟩⟩
    have m4 := m3.then n4 (o := .lst ((base0 k h').map bookV))
    have m5 := m4.then nb (o := .lst [])
    have h4b : p4 ≠ b := ne_of_none upd_same nb
    have n4H := m3.free n4
    have nbH := m4.free nb
    have blen : (base0 k h').length = k + h' := by
      unfold base0
      rw [List.length_append, List.length_map, List.length_range, List.length_replicate]
    refine ⟨_, rfl, n, rfl, by omega, by omega, ?_⟩
    refine for_range (lo := 0) (n := n.toNat) (fun i σ H' => ∃ (acc left : List (Option Int)) (w5 : Option V), σ = [some (.ref r), some (.int n), some (.int h), some (.ref p4), some (.ref b), w5] ∧ Mv c d.T r H H' ∧ H' p4 = some (.lst (left.map bookV)) ∧ H' b = some (.lst (acc.map bookV)) ∧
      (acc ++ left).Perm (base0 k h') ∧ acc.length = i) ⟨[], base0 k h', none, rfl, m5, by rw [upd_ne h4b]; exact upd_same, upd_same, List.Perm.refl _, rfl⟩ ?_ ?_
    · rintro i σ H6 hi ⟨acc, left, w5, rfl, m6, hl6, hb6, perm, hal⟩
      have hll : left.length = k + h' - i := by
        have := perm.length_eq
        rw [List.length_append, blen] at this
        omega
      have row6 := row.mv m6
      refine ⟨_, rfl, Or.inl ⟨rfl, _, SqL.of hb6⟩, _, rfl, Or.inl ⟨rfl, _, SqL.of hl6⟩, _, rfl, _, rfl, .ref p4, left.length, rfl, Or.inl ⟨_, SqL.of hl6, by simp⟩, c, r, (left.length : Int), rfl, row6, by omega, by omega, fun v H7 v0 v1 e7 row7 => ?_⟩
      have m67 := Mv.of_eq m6.tb m6.row e7 row7
      have p4r := row.row.ne n4H
      have br := row.row.ne nbH
      have hl7 := m67.lst p4r hl6
      have hb7 := m67.lst br hb6
      have hvl : v.toNat < left.length := by omega
      have ev : v = ((v.toNat : Nat) : Int) := by omega
      have hg : left[v.toNat]? = some left[v.toNat] := List.getElem?_eq_getElem hvl
      refine ⟨p4, left.map bookV, v, v.toNat, bookV left[v.toNat], rfl, rfl, hl7, by omega, by omega, ?_, by rw [List.getElem?_map, hg]; rfl, ?_⟩
      · have := (ixN_seq (ixn (n := (left.map bookV).length) (j := v.toNat) (by rw [List.length_map]; exact hvl))).1
        rwa [← ev] at this
      refine ⟨b, _, _, rfl, rfl, by rw [upd_ne (Ne.symm h4b)]; exact hb7, by rw [List.length_map, sizeLine_eq]; omega, ?_⟩
      refine ⟨acc ++ [left[v.toNat]], left.eraseIdx v.toNat, _, rfl, ((m6.trans m67).put n4H p4r).put nbH br, ?_, by rw [upd_same, List.map_append]; rfl, (perm_pop hg).trans perm, by rw [List.length_append, hal]; rfl⟩
      rw [upd_ne h4b, upd_same, erase_map]
    · rintro σ H6 ⟨acc, left, w5, rfl, m6, hl6, hb6, perm, hal⟩
      have hln : left = [] := by
        have := perm.length_eq
        rw [List.length_append, blen] at this
        exact List.length_eq_zero_iff.mp (by omega)
      subst hln
      rw [List.append_nil] at perm
      refine ⟨_, rfl, b, _, rfl, SqL.of hb6, fun p7 o7 n7 oc od => ?_⟩
      have m7 := m6.then n7 (o := .frz o7 (.tup (acc.map bookV)))
      have fz : FzT (hid r (upd H6 p7 (.frz o7 (.tup (acc.map bookV))))) p7 (acc.map bookV) := ⟨o7, by rw [hid_ne (m6.row.ne n7)]; exact upd_same, oc, od⟩
      exact q acc _ _ (vs_perm (by omega) (by omega) (by omega) hn7 perm) m7 (.tup fz.sq (stand_all acc)) ⟨p7, rfl, fz⟩
end
end HK
set_option Elab.async false
set_option linter.all false
set_option maxRecDepth 100000
set_option maxHeartbeats 2000000
namespace HK
open PySem PySem.Spec PyProof.Rows L2 SX
/-! ### instructions as tuples on the heap -/
def InsAt (K : PySem.W.Frag) (H : Hp) (v : V) (i : Ins) : Prop := ∃ a, v = .ref a ∧ SqT K H a (.str (S i.1) :: i.2.map V.int)
def InsTs (K : PySem.W.Frag) (H : Hp) : List V → List Ins → Prop := Paired (InsAt K H)
theorem InsTs.go {T : List Addr} {K : PySem.W.Frag} {H H1 : Hp} (g : Go T H H1) {xs : List V} {ps : List Ins} (h : InsTs K H xs ps) : InsTs K H1 xs ps := L2.Paired.mapP h fun _ _ z => by
  obtain ⟨p, e, h⟩ := z
  exact ⟨p, e, g.st h⟩
theorem InsTs.put {K : PySem.W.Frag} {H : Hp} {t : Addr} {ys zs xs : List V} {ps : List Ins} (ht : H t = some (.lst ys)) (h : InsTs K H xs ps) : InsTs K (upd H t (.lst zs)) xs ps := L2.Paired.mapP h fun _ _ z => by
  obtain ⟨p, e, h⟩ := z
  exact ⟨p, e, sqT_upd ht h⟩
theorem InsTs.dp {K : PySem.W.Frag} {H : Hp} : ∀ {xs : List V} {ps : List Ins}, InsTs K H xs ps → DpAll K H xs (ps.map insD)
  | _, _, .nil => .nil
  | _, _, .cons h t => by
    obtain ⟨p, rfl, hp⟩ := h
    exact .cons (Dp.ins_mk hp) (InsTs.dp t)
theorem InsTs.of_dp {K : PySem.W.Frag} {H : Hp} : ∀ {ps : List Ins} {xs : List V}, DpAll K H xs (ps.map insD) → InsTs K H xs ps
  | [], xs, h => by
    rw [DpAll.nil_inv h]
    exact .nil
  | i :: ps, xs, h => by
    obtain ⟨v, r, rfl, a, b⟩ := DpAll.cons_inv h
    obtain ⟨p, rfl, hp⟩ := Dp.ins_inv a
    exact .cons ⟨p, rfl, hp⟩ (InsTs.of_dp b)
theorem ask_word : ∀ v : Nat, v < 5 → ∃ wd, isAsking wd = true ∧ [V.str "get", V.str "plus", V.str "minus", V.str "set", V.str "get"][v]? = some (.str (S wd))
  | 0, _ => ⟨kGet, by decide, by rw [← w_get]; rfl⟩
  | 1, _ => ⟨kPlus, by decide, by rw [← w_plus]; rfl⟩
  | 2, _ => ⟨kMinus, by decide, by rw [← w_minus]; rfl⟩
  | 3, _ => ⟨kSet, by decide, by rw [← w_set]; rfl⟩
  | 4, _ => ⟨kGet, by decide, by rw [← w_get]; rfl⟩
  | n + 5, h => by omega
theorem jump_word : ∀ v : Nat, v < 3 → ∃ wd, isJump wd = true ∧ [V.str "zero", V.str "go", V.str "zero"][v]? = some (.str (S wd))
  | 0, _ => ⟨kZero, by decide, by rw [← w_zero]; rfl⟩
  | 1, _ => ⟨kGo, by decide, by rw [← w_go]; rfl⟩
  | 2, _ => ⟨kZero, by decide, by rw [← w_zero]; rfl⟩
  | n + 3, h => by omega
theorem vi_ask {b m t : Int} {wd : List Nat} (h : isAsking wd = true) (h1 : 0 ≤ t) (h2 : t ≤ b - 1) : VI b m (wd, [t]) := .inr (.inr (.inl ⟨h, t, rfl, h1, h2⟩))
theorem vi_jump {b m t : Int} {wd : List Nat} (h : isJump wd = true) (h1 : 0 ≤ t) (h2 : t ≤ m) : VI b m (wd, [t]) := .inr (.inr (.inr (.inr ⟨h, t, rfl, h1, h2⟩)))
theorem vi_put {b m t : Int} (h1 : -1000000 ≤ t) (h2 : t ≤ 1000000) : VI b m (kPut, [t]) := .inr (.inr (.inr (.inl ⟨rfl, t, rfl, h1, h2⟩)))
theorem vi_none {b m : Int} {wd : List Nat} (h : isOne wd = true) : VI b m (wd, []) := .inl ⟨h, rfl⟩
theorem vi_slide {b m x y : Int} (h1 : 0 ≤ x) (h2 : x ≤ 6) (h3 : 0 ≤ y) (h4 : y ≤ 6) : VI b m (kSlide, [x, y]) := .inr (.inl ⟨rfl, x, y, rfl, h1, h2, h3, h4⟩)
structure VQ (books : Int) (k : Nat) (p : List Ins) : Prop where
  ne : p ≠ []
  few : p.length ≤ k
  ok : ∀ i ∈ p, VI books (p.length : Int) i
section
variable {P : Program} {w : World} {K : PySem.W.Frag} {mg : Str → Option Value} {base : Heap} {d : Ad}
def spLProg (K : PySem.W.Frag) (d : Ad) : Sp := fun vs H Q _ => ∃ (c : Scr) (r : Addr) (books : Int), vs = [.ref r, .int books, .int 6] ∧ RowA K c H r ∧ Tb d.T H ∧ 1 ≤ books ∧ books ≤ 6 ∧ ∀ (p : List Ins) (v : V) H', VQ books 6 p → Mv c d.T r H H' → Dp K (hid r H') v (progD p) → Q v H'
theorem dk_law_program (T : Tx K mg d) : DK P w K mg base CX0 3 "_law_program" (spLProg K d) := by
  have d_law_taken : DK P w K mg base CX0 1 "_law_taken" (spLTaken K) := dk_law_taken T
  have d_law_pick : DK P w K mg base CX0 2 "_law_pick" (spLPick K) := dk_law_pick T
  refine T.d_law_program.dk0 sc_law_program (fun vs H Q E h => ?_) fun f cdv A outer s H vs Q E hr h => ?_
  · obtain ⟨_, _, _, rfl, _⟩ := h
    rfl
  · obtain ⟨c, r, books, rfl, row, tb, hb1, hb6, q⟩ := h
    refine ⟨_, (pss_cons (ps_par (i := 3) (j := 4) (by rfl) sc_law_program.nd rfl rfl (by decide) rfl rfl (pa_cons (pe_op op_add pe_int (pe_d d_law_taken hr (by decide) rfl pass0 (pa_cons (pv 0) (pa_cons (pv 2) pa_nil)))) (pa_cons (pe_lst pa_nil) pa_nil)) (by rfl))
    (pss_cons (ps_for PassesOwn.never rfl (pi_range1 (by rfl) T.f_range (pa_cons (pv 3) pa_nil)) (pg_name (i := 5) sc_law_program.nd rfl (Or.inl rfl))
      (pss_cons (ps_set (i := 6) sc_law_program.nd rfl (Or.inl rfl) (pe_d d_law_taken hr (by decide) rfl pass0 (pa_cons (pv 0) (pa_cons pe_int pa_nil))))
      (pss_one (ps_if (pt_cmpR op_lt (pv 6) pe_int (nomark _))
        (pss_one (ps_expr (pe_bm PySem.F.plainAttrs_list PySem.F.slot_list_append PySem.F.type_list_append mt_append (pv 4) (pa_cons (pe_tup (pa_cons (pe_ix (ix_seqK K rfl) (pe_lst (pa_cons pe_str (pa_cons pe_str (pa_cons pe_str (pa_cons pe_str (pa_cons pe_str pa_nil)))))) (pv 6) (fun _ _ => rfl)) (pa_cons (pe_d d_law_taken hr (by decide) rfl pass0 (pa_cons (pv 0) (pa_cons (pv 1) pa_nil))) pa_nil))) pa_nil))))
        (pss_one (ps_if (pt_cmpR op_lt (pv 6) pe_int (nomark _))
          (pss_one (ps_expr (pe_bm PySem.F.plainAttrs_list PySem.F.slot_list_append PySem.F.type_list_append mt_append (pv 4) (pa_cons (pe_tup (pa_cons (pe_ix (ix_seqK K rfl) (pe_lst (pa_cons pe_str (pa_cons pe_str (pa_cons pe_str pa_nil)))) (pe_op op_sub (pv 6) pe_int) (fun _ _ => rfl)) (pa_cons (pe_d d_law_taken hr (by decide) rfl pass0 (pa_cons (pv 0) (pa_cons (pe_op op_add (pv 3) pe_int) pa_nil))) pa_nil))) pa_nil))))
          (pss_one (ps_expr (pe_bm PySem.F.plainAttrs_list PySem.F.slot_list_append PySem.F.type_list_append mt_append (pv 4) (pa_cons (pe_d d_law_pick hr (by decide) rfl pass0 (pa_cons (pv 0) (pa_cons (pe_lst (pa_cons (pe_tup (pa_cons pe_str pa_nil)) (pa_cons (pe_tup (pa_cons pe_str pa_nil)) (pa_cons (pe_tup (pa_cons pe_str (pa_cons (pe_op op_sub (pe_d d_law_taken hr (by decide) rfl pass0 (pa_cons (pv 0) (pa_cons pe_int pa_nil))) pe_int) pa_nil))) (pa_cons (pe_tup (pa_cons pe_str pa_nil)) pa_nil))))) pa_nil))) pa_nil))))))))))
    (pss_one (ps_ret (pe_callTy (call_tupK K rfl) (by rfl) T.f_tuple (by decide +kernel) (pa_cons (pv 4) pa_nil)))))), ?_⟩
    refine ⟨_, rfl, _, rfl, c, r, 6, rfl, row, by decide, by decide, fun v0 H1 hv0 hv1 e1 row1 => ?_⟩
    have m1 : Mv c d.T r H H1 := Mv.of_eq tb row.row e1 row1
    obtain ⟨n, hn⟩ : ∃ n : Nat, 1 + v0 = (n : Int) := ⟨(1 + v0).toNat, by omega⟩
    refine ⟨_, _, rfl, rfl, (show (0 : Nat) ≤ sizeLine by decide), fun b nb => ⟨_, _, rfl, ?_⟩⟩
    have m2 := m1.then nb (o := .lst [])
    have nbH := m1.free nb
    have br := row.row.ne nbH
    show tSeq _ _ _ [some (.ref r), some (.int books), some (.int 6), some (.int (1 + v0)), some (.ref b), none, none] _
    rw [hn]
    refine ⟨_, rfl, (n : Int), rfl, by omega, by omega, ?_⟩
    refine for_range (lo := 0) (n := ((n : Int)).toNat) (fun i σ H' => ∃ (ps : List Ins) (xs : List V) (w5 w6 : Option V), σ = [some (.ref r), some (.int books), some (.int 6), some (.int (n : Int)), some (.ref b), w5, w6] ∧ Mv c d.T r H H' ∧ H' b = some (.lst xs) ∧ InsTs K (hid r H') xs ps ∧
      (∀ i ∈ ps, VI books (n : Int) i) ∧ ps.length = i) ⟨[], [], none, none, rfl, m2, upd_same, .nil, by simp, rfl⟩ ?_ ?_
    · rintro i σ H3 hi ⟨ps, xs, w5, w6, rfl, m3, hb3, hps, hok, hpl⟩
      have xlen : xs.length = ps.length := hps.length
      -- what a new instruction does
      have fin : ∀ (N : L2.St → Hp → Prop) (w5' w6' : Option V) (H4 : Hp) (l : Addr) (ins : Ins), (∀ σ H', (∃ (ps : List Ins) (xs : List V) (w5 w6 : Option V), σ = [some (.ref r), some (.int books), some (.int 6), some (.int (n : Int)), some (.ref b), w5, w6] ∧ Mv c d.T r H H' ∧ H' b = some (.lst xs) ∧ InsTs K (hid r H') xs ps ∧ (∀ i ∈ ps, VI books (n : Int) i) ∧ ps.length = i + 1) → N σ H') →
          Mv c d.T r H3 H4 → SqT K (hid r H4) l (.str (S ins.1) :: ins.2.map V.int) → VI books (n : Int) ins →
          rAppend (.ref b) [.ref l] H4 fun _ H5 => N [some (.ref r), some (.int books), some (.int 6), some (.int (n : Int)), some (.ref b), w5', w6'] H5 := by
        intro N w5' w6' H4 l ins hN m34 hl vi
        have hb4 := m34.lst br hb3
        have hbr : (hid r H4) b = some (.lst xs) := by rw [hid_ne br]; exact hb4
        refine ⟨b, xs, _, rfl, rfl, hb4, by rw [sizeLine_eq]; omega, hN _ _ ⟨ps ++ [ins], xs ++ [.ref l], w5', w6', rfl, (m3.trans m34).put nbH br, upd_same, ?_, fun j hj => ?_, by rw [List.length_append, hpl]; rfl⟩⟩
        · rw [hid_put br]
          exact pd_app ((hps.go m34.go).put hbr) (.cons ⟨l, rfl, sqT_upd hbr hl⟩ .nil)
        · rcases List.mem_append.mp hj with z | z
          · exact hok j z
          · have : j = ins := by simpa using z
            rw [this]
            exact vi
      have row3 := row.mv m3
      refine ⟨_, rfl, c, r, 11, rfl, row3, by decide, by decide, fun way H4 w0 w1 e4 row4 => ?_⟩
      have m34 := Mv.of_eq m3.tb m3.row e4 row4
      have hb4 := m34.lst br hb3
      refine ⟨_, rfl, _, _, rfl, rfl, decide (way < 5), rfl, ?_⟩
      by_cases c1 : way < 5
      · rw [decide_eq_true c1]
        obtain ⟨wd, hwd, hix⟩ := ask_word way.toNat (by omega)
        have ew : way = ((way.toNat : Nat) : Int) := by omega
        refine iteT ⟨_, rfl, Or.inl ⟨rfl, _, SqL.of hb4⟩, (show (5 : Nat) ≤ sizeLine by decide), fun p5 n5 => ?_⟩
        have m5 := m34.then n5 (o := .lst [.str "get", .str "plus", .str "minus", .str "set", .str "get"])
        refine ⟨_, rfl, Or.inl ⟨p5, _, way, .str (S wd), rfl, rfl, SqL.of upd_same, by rw [ew]; exact atI_nat hix, ?_⟩⟩
        refine ⟨_, rfl, _, rfl, c, r, books, rfl, row3.mv m5, hb1, by omega, fun t H6 t0 t1 e6 row6 => ?_⟩
        have m6 := m5.eqs e6 row6
        refine ⟨(show (2 : Nat) ≤ sizeLine by decide), fun l nl => ?_⟩
        have m7 := m6.then nl (o := .tup [.str (S wd), .int t])
        exact fin _ _ _ _ l (wd, [t]) (fun _ _ z => z) m7 (.inl (.inl (by rw [hid_ne (m6.row.ne nl)]; exact upd_same))) (vi_ask hwd t0 (by omega))
      · rw [decide_eq_false c1]
        refine iteF ⟨_, rfl, _, _, rfl, rfl, decide (way < 8), rfl, ?_⟩
        by_cases c2 : way < 8
        · rw [decide_eq_true c2]
          obtain ⟨wd, hwd, hix⟩ := jump_word (way - 5).toNat (by omega)
          have ew : way - 5 = (((way - 5).toNat : Nat) : Int) := by omega
          refine iteT ⟨_, rfl, Or.inl ⟨rfl, _, SqL.of hb4⟩, (show (3 : Nat) ≤ sizeLine by decide), fun p5 n5 => ?_⟩
          have m5 := m34.then n5 (o := .lst [.str "zero", .str "go", .str "zero"])
          refine ⟨_, rfl, _, _, rfl, rfl, Or.inl ⟨p5, _, way - 5, .str (S wd), rfl, rfl, SqL.of upd_same, by rw [ew]; exact atI_nat hix, ?_⟩⟩
          refine ⟨_, rfl, _, rfl, _, _, rfl, rfl, c, r, (n : Int) + 1, rfl, row3.mv m5, by omega, by omega, fun t H6 t0 t1 e6 row6 => ?_⟩
          have m6 := m5.eqs e6 row6
          refine ⟨(show (2 : Nat) ≤ sizeLine by decide), fun l nl => ?_⟩
          have m7 := m6.then nl (o := .tup [.str (S wd), .int t])
          exact fin _ _ _ _ l (wd, [t]) (fun _ _ z => z) m7 (.inl (.inl (by rw [hid_ne (m6.row.ne nl)]; exact upd_same))) (vi_jump hwd t0 (by omega))
        · rw [decide_eq_false c2]
          refine iteF ⟨_, rfl, Or.inl ⟨rfl, _, SqL.of hb4⟩, _, rfl, (show (1 : Nat) ≤ sizeLine by decide), fun l1 nl1 => ⟨(show (1 : Nat) ≤ sizeLine by decide), fun l2 nl2 => ?_⟩⟩
          have m5 := m34.then nl1 (o := .tup [.str "say"])
          have m6 := m5.then nl2 (o := .tup [.str "ask"])
          have t1 : SqT K (hid r (upd H4 l1 (.tup [.str "say"]))) l1 [.str "say"] := .inl (.inl (by rw [hid_ne (m34.row.ne nl1)]; exact upd_same))
          have t2 : SqT K (hid r (upd (upd H4 l1 (.tup [.str "say"])) l2 (.tup [.str "ask"]))) l2 [.str "ask"] := .inl (.inl (by rw [hid_ne (m5.row.ne nl2)]; exact upd_same))
          have m56 := (Mv.refl m5.tb m5.row).then nl2 (o := .tup [.str "ask"])
          refine ⟨_, rfl, c, r, 5, rfl, row3.mv m6, by decide, by decide, fun t H7 t0 t1' e7 row7 => ?_⟩
          have m67 := Mv.of_eq m6.tb m6.row e7 row7
          have m7 := m6.trans m67
          refine ⟨_, _, rfl, rfl, (show (2 : Nat) ≤ sizeLine by decide), fun l3 nl3 => ?_⟩
          have m78 := (Mv.refl m7.tb m7.row).then nl3 (o := .tup [.str "put", .int (t - 2)])
          have t3 : SqT K (hid r (upd H7 l3 (.tup [.str "put", .int (t - 2)]))) l3 [.str "put", .int (t - 2)] := .inl (.inl (by rw [hid_ne (m7.row.ne nl3)]; exact upd_same))
          have m8 := m7.trans m78
          refine ⟨(show (1 : Nat) ≤ sizeLine by decide), fun l4 nl4 => ⟨(show (4 : Nat) ≤ sizeLine by decide), fun p9 np9 => ?_⟩⟩
          have m89 := (Mv.refl m8.tb m8.row).then nl4 (o := .tup [.str "stop"])
          have t4 : SqT K (hid r (upd (upd H7 l3 (.tup [.str "put", .int (t - 2)])) l4 (.tup [.str "stop"]))) l4 [.str "stop"] := .inl (.inl (by rw [hid_ne (m8.row.ne nl4)]; exact upd_same))
          have m9 := m8.trans m89
          have m9' := (Mv.refl m9.tb m9.row).then np9 (o := .lst [.ref l1, .ref l2, .ref l3, .ref l4])
          have m10 := m9.trans m9'
          refine ⟨c, r, p9, [.ref l1, .ref l2, .ref l3, .ref l4], rfl, row3.mv m10, SqL.of (by rw [hid_ne (m9.row.ne np9)]; exact upd_same), (show (1 : Nat) ≤ 4 by decide), (show (4 : Nat) ≤ 1000 by decide), fun k v H11 hk e11 row11 => ?_⟩
          have m11 := Mv.of_eq m10.tb m10.row e11 row11
          have u4 := ((m9'.trans m11).go).st t4
          have u3 := ((m89.trans (m9'.trans m11)).go).st t3
          have u2 := ((m67.trans (m78.trans (m89.trans (m9'.trans m11)))).go).st t2
          have u1 := ((m56.trans (m67.trans (m78.trans (m89.trans (m9'.trans m11))))).go).st t1
          match k, hk with
          | 0, hk =>
            obtain rfl : V.ref l1 = v := Option.some.inj hk
            exact fin _ _ _ _ l1 (kSay, []) (fun _ _ z => z) (m10.trans m11) (by rw [w_say] at u1; exact u1) (vi_none (by decide))
          | 1, hk =>
            obtain rfl : V.ref l2 = v := Option.some.inj hk
            exact fin _ _ _ _ l2 (kAsk, []) (fun _ _ z => z) (m10.trans m11) (by rw [w_ask] at u2; exact u2) (vi_none (by decide))
          | 2, hk =>
            obtain rfl : V.ref l3 = v := Option.some.inj hk
            exact fin _ _ _ _ l3 (kPut, [t - 2]) (fun _ _ z => z) (m10.trans m11) (by rw [w_put] at u3; exact u3) (vi_put (by omega) (by omega))
          | 3, hk =>
            obtain rfl : V.ref l4 = v := Option.some.inj hk
            exact fin _ _ _ _ l4 (kStop, []) (fun _ _ z => z) (m10.trans m11) (by rw [w_stop] at u4; exact u4) (vi_none (by decide))
          | k + 4, hk => simp at hk
    · rintro σ H3 ⟨ps, xs, w5, w6, rfl, m3, hb3, hps, hok, hpl⟩
      refine ⟨_, rfl, b, xs, rfl, Or.inl ⟨SqL.of hb3, fun l nl => ?_⟩⟩
      have m4 := (Mv.refl m3.tb m3.row).then nl (o := .tup xs)
      have hpn : ps.length = n := by omega
      refine q ps _ _ ⟨fun z => ?_, by omega, fun j hj => ?_⟩ (m3.trans m4) (.tup (.inl (.inl (by rw [hid_ne (m3.row.ne nl)]; exact upd_same))) (hps.go m4.go).dp)
      · rw [z] at hpn
        simp at hpn
        omega
      · rw [hpn]
        exact hok j hj
end
end HK
set_option Elab.async false
set_option linter.all false
set_option maxRecDepth 100000
set_option maxHeartbeats 2000000
namespace HK
open PySem PySem.Spec PyProof.Rows L2 SX
section
variable {P : Program} {w : World} {K : PySem.W.Frag} {mg : Str → Option Value} {base : Heap} {d : Ad}
def spLKept (K : PySem.W.Frag) (d : Ad) : Sp := fun vs H Q _ => ∃ (c : Scr) (r : Addr) (v : V) (books n : Int) (p : List Ins), vs = [.ref r, v, .int n] ∧ RowA K c H r ∧ Tb d.T H ∧ Dp K (hid r H) v (progD p) ∧ VQ books 6 p ∧ 2 ≤ n ∧ n ≤ 7 ∧
  ∀ (p' : List Ins) (v' : V) H', VQ books 18 p' → Mv c d.T r H H' → Dp K (hid r H') v' (progD p') → Q v' H'
theorem dk_law_kept (T : Tx K mg d) : DK P w K mg base CX0 2 "_law_kept" (spLKept K d) := by
  have d_law_taken : DK P w K mg base CX0 1 "_law_taken" (spLTaken K) := dk_law_taken T
  refine T.d_law_kept.dk0 sc_law_kept (fun vs H Q E h => ?_) fun f cdv A outer s H vs Q E hr h => ?_
  · obtain ⟨_, _, _, _, _, _, rfl, _⟩ := h
    rfl
  · obtain ⟨c, r, v, books, n, p, rfl, row, tb, hv, vq, hn2, hn7, q⟩ := h
    obtain ⟨a, xs, rfl, ha, hall⟩ := Dp.tup_inv hv
    have hp0 := InsTs.of_dp hall
    have xlen : xs.length = p.length := hp0.length
    have hpm := vq.few
    refine ⟨_, (pss_cons (ps_asg (pe_tup (pa_cons (pe_lst pa_nil) (pa_cons (pe_lst pa_nil) pa_nil))) (pg_tupK K rfl (n := 2) (by rfl) (pgs_cons (pg_name (i := 3) sc_law_kept.nd rfl (Or.inl rfl)) (pgs_cons (pg_name (i := 4) sc_law_kept.nd rfl (Or.inr rfl)) pgs_nil))))
    (pss_cons (ps_for PassesOwn.never rfl (pi_tupK K rfl (pv 1)) (pg_name (i := 5) sc_law_kept.nd rfl (Or.inl rfl))
      (pss_cons (ps_expr (pe_bm PySem.F.plainAttrs_list PySem.F.slot_list_append PySem.F.type_list_append mt_append (pv 4) (pa_cons (pe_callB (call_lenK K rfl) (by rfl) T.f_len (by decide +kernel) (pa_cons (pv 3) pa_nil)) pa_nil)))
      (pss_cons (ps_for PassesOwn.never rfl (pi_range1 (by rfl) T.f_range (pa_cons (pe_d d_law_taken hr (by decide) rfl pass0 (pa_cons (pv 0) (pa_cons pe_int pa_nil))) pa_nil)) (pg_name (i := 6) sc_law_kept.nd rfl (Or.inl rfl))
        (pss_one (ps_expr (pe_bm PySem.F.plainAttrs_list PySem.F.slot_list_append PySem.F.type_list_append mt_append (pv 3) (pa_cons (pe_tup (pa_cons pe_str (pa_cons (pe_d d_law_taken hr (by decide) rfl pass0 (pa_cons (pv 0) (pa_cons (pv 2) pa_nil))) (pa_cons (pe_d d_law_taken hr (by decide) rfl pass0 (pa_cons (pv 0) (pa_cons (pv 2) pa_nil))) pa_nil)))) pa_nil)))))
      (pss_one (ps_expr (pe_bm PySem.F.plainAttrs_list PySem.F.slot_list_append PySem.F.type_list_append mt_append (pv 3) (pa_cons (pe_ifExp (pt_cmpR op_gt (pe_d d_law_taken hr (by decide) rfl pass0 (pa_cons (pv 0) (pa_cons pe_int pa_nil))) pe_int (nomark _)) (pv 5) (pe_tup (pa_cons pe_str pa_nil))) pa_nil)))))))
    (pss_cons (ps_expr (pe_bm PySem.F.plainAttrs_list PySem.F.slot_list_append PySem.F.type_list_append mt_append (pv 4) (pa_cons (pe_callB (call_lenK K rfl) (by rfl) T.f_len (by decide +kernel) (pa_cons (pv 3) pa_nil)) pa_nil)))
    (pss_one (ps_ret (pe_callTy (call_tupK K rfl) (by rfl) T.f_tuple (by decide +kernel) (pa_cons (by exact (pe_lc (own := [("_law_one", 5)]) (by rfl) sc_law_kept.nd (pi_listK K rfl (pv 3)) (blkOk_by (own := [("_law_one", 5)]) (N := n_law_kept) (sc := defScope s_law_kept) (by decide +kernel)) (fun _ _ _ _ _ => by exact (pg_name (i := 5) sc_law_kept.nd rfl (Or.inl rfl))) (fun _ _ _ _ _ => by exact pts_nil) (fun _ _ _ _ _ => by exact (pe_ifExp (pt_cmpR (op_inK K rfl) (pe_ix (ix_seqK K rfl) (pv 5) pe_int (fun _ _ => rfl)) (pe_lst (pa_cons pe_str (pa_cons pe_str pa_nil))) rfl) (pe_tup (pa_cons (pe_ix (ix_seqK K rfl) (pv 5) pe_int (fun _ _ => rfl)) (pa_cons (pe_ix (ix_seqK K rfl) (pv 4) (pe_ix (ix_seqK K rfl) (pv 5) pe_int (fun _ _ => rfl)) (fun _ _ => rfl)) pa_nil))) (pv 5))))) pa_nil))))))), ?_⟩
    refine ⟨(show (0 : Nat) ≤ sizeLine by decide), fun b1 nb1 => ⟨(show (0 : Nat) ≤ sizeLine by decide), fun b2 nb2 => ⟨(show (2 : Nat) ≤ sizeLine by decide), fun p0 np0 => ?_⟩⟩⟩
    have m0 := Mv.refl tb row.row
    have m1 := m0.then nb1 (o := .lst [])
    have m2' := m1.then nb2 (o := .lst [])
    have m2 := m2'.then np0 (o := .tup [.ref b1, .ref b2])
    have h12 : b1 ≠ b2 := ne_of_none upd_same nb2
    have nb2H := m1.free nb2
    have b1r := row.row.ne nb1
    have b2r := row.row.ne nb2H
    have h1p : b1 ≠ p0 := fun z => by rw [← z, upd_ne h12, upd_same] at np0; cases np0
    have h2p : b2 ≠ p0 := ne_of_none upd_same np0
    refine ⟨p0, _, rfl, .inl (.inl upd_same), rfl, _, _, rfl, _, _, rfl, rfl, ?_⟩
    refine ⟨_, rfl, a, rfl, ⟨_, SqT.up (r := r) (m2.go.st ha)⟩, ?_⟩
    refine for_tup (K := K) (a := a) (xs := xs) (fun i σ H' => ∃ (fs : List Ins) (ys : List V) (ss : List Int) (w5 w6 : Option V), σ = [some (.ref r), some (.ref a), some (.int n), some (.ref b1), some (.ref b2), w5, w6] ∧ Mv c d.T r H H' ∧ H' b1 = some (.lst ys) ∧ InsTs K (hid r H') ys fs ∧ (∀ i ∈ fs, VI books (p.length : Int) i) ∧
      fs.length ≤ 3 * i ∧ i ≤ fs.length ∧ H' b2 = some (.lst (ss.map V.int)) ∧ ss.length = i ∧ ∀ z ∈ ss, 0 ≤ z ∧ z ≤ (fs.length : Int)) ⟨[], [], [], none, none, rfl, m2, by rw [upd_ne h1p, upd_ne h12]; exact upd_same, .nil, by simp, by simp, by simp, by rw [upd_ne h2p]; exact upd_same, rfl, by simp⟩
      (fun i σ H' _ h => ?_) ?_ ?_
    · obtain ⟨_, _, _, _, _, _, m, _⟩ := h
      exact SqT.up (r := r) (m.go.st ha)
    · rintro i x σ H3 hx ⟨fs, ys, ss, w5, w6, rfl, m3, hb1, hfs, hok, hf3, hfi, hb2, hsl, hsz⟩
      obtain ⟨ins, hins, hxi⟩ := pd_get hp0 hx
      obtain ⟨ai, rfl, hai⟩ := hxi
      have hai3 := m3.go.st hai
      have hi : i < p.length := (List.getElem?_eq_some_iff.mp hins).1
      have ylen : ys.length = fs.length := hfs.length
      refine ⟨_, rfl, Or.inl ⟨rfl, _, SqL.of hb2⟩, _, rfl, .ref b1, ys.length, rfl, Or.inl ⟨_, SqL.of hb1, rfl⟩, b2, _, _, rfl, rfl, hb2, by rw [List.length_map, sizeLine_eq]; omega, ?_⟩
      have m4 : Mv c d.T r H (upd H3 b2 (.lst (ss.map V.int ++ [.int (ys.length : Int)]))) := m3.put nb2H b2r
      have hb2r3 : (hid r H3) b2 = some (.lst (ss.map V.int)) := by rw [hid_ne b2r]; exact hb2
      have hfs4 : InsTs K (hid r (upd H3 b2 (.lst (ss.map V.int ++ [.int (ys.length : Int)])))) ys fs := by
        rw [hid_put b2r]
        exact hfs.put hb2r3
      have hai4 : SqT K (hid r (upd H3 b2 (.lst (ss.map V.int ++ [.int (ys.length : Int)])))) ai (.str (S ins.1) :: ins.2.map V.int) := by
        rw [hid_put b2r]
        exact sqT_upd hb2r3 hai3
      have hb14 : (upd H3 b2 (.lst (ss.map V.int ++ [.int (ys.length : Int)]))) b1 = some (.lst ys) := by
        rw [upd_ne h12]
        exact hb1
      have hb24 : (upd H3 b2 (.lst (ss.map V.int ++ [.int (ys.length : Int)]))) b2 = some (.lst ((ss ++ [(fs.length : Int)]).map V.int)) := by
        rw [upd_same, List.map_append, ylen]
        rfl
      generalize upd H3 b2 (.lst (ss.map V.int ++ [.int (ys.length : Int)])) = H4 at m4 hfs4 hai4 hb14 hb24 ⊢
      refine ⟨_, rfl, c, r, 3, rfl, row.mv m4, by decide, by decide, fun cnt H5 c0 c1 e5 row5 => ?_⟩
      have m45 := Mv.of_eq m4.tb m4.row e5 row5
      have m5 := m4.trans m45
      refine ⟨cnt, rfl, by omega, by omega, ?_⟩
      refine for_range (lo := 0) (n := cnt.toNat) (fun j σ H' => ∃ (gs : List Ins) (zs : List V) (w6 : Option V), σ = [some (.ref r), some (.ref a), some (.int n), some (.ref b1), some (.ref b2), some (.ref ai), w6] ∧ Mv c d.T r H H' ∧ H' b1 = some (.lst zs) ∧ InsTs K (hid r H') zs gs ∧ (∀ i ∈ gs, VI books (p.length : Int) i) ∧
        gs.length = fs.length + j ∧ H' b2 = some (.lst ((ss ++ [(fs.length : Int)]).map V.int)) ∧ SqT K (hid r H') ai (.str (S ins.1) :: ins.2.map V.int))
        ⟨fs, ys, w6, rfl, m5, m45.lst b1r hb14, hfs4.go m45.go, hok, rfl, m45.lst b2r hb24, m45.go.st hai4⟩ ?_ ?_
      · rintro j σ H6 hj ⟨gs, zs, w6, rfl, m6, hb16, hgs, hgok, hgl, hb26, hai6⟩
        have zlen : zs.length = gs.length := hgs.length
        have row6 := row.mv m6
        refine ⟨_, rfl, Or.inl ⟨rfl, _, SqL.of hb16⟩, _, rfl, _, rfl, c, r, n, rfl, row6, by omega, by omega, fun s1 H7 s10 s11 e7 row7 => ?_⟩
        have m67 := Mv.of_eq m6.tb m6.row e7 row7
        have m7 := m6.trans m67
        refine ⟨_, rfl, _, rfl, c, r, n, rfl, row.mv m7, by omega, by omega, fun s2 H8 s20 s21 e8 row8 => ?_⟩
        have m78 := Mv.of_eq m7.tb m7.row e8 row8
        have m8 := m7.trans m78
        refine ⟨(show (3 : Nat) ≤ sizeLine by decide), fun l nl => ?_⟩
        have m9 := m8.then nl (o := .tup [.str "slide", .int s1, .int s2])
        have m69 := (m67.trans m78).then nl (o := .tup [.str "slide", .int s1, .int s2])
        have hb19 := m69.lst b1r hb16
        have hb29 := m69.lst b2r hb26
        have hl9 : SqT K (hid r (upd H8 l (.tup [.str "slide", .int s1, .int s2]))) l [.str (S kSlide), .int s1, .int s2] := by
          rw [← w_slide]
          exact .inl (.inl (by rw [hid_ne (m8.row.ne nl)]; exact upd_same))
        have hgs9 := hgs.go m69.go
        have hai9 := m69.go.st hai6
        generalize upd H8 l (.tup [.str "slide", .int s1, .int s2]) = H9 at m9 m69 hb19 hb29 hl9 hgs9 hai9 ⊢
        have hb1r9 : (hid r H9) b1 = some (.lst zs) := by rw [hid_ne b1r]; exact hb19
        refine ⟨b1, _, _, rfl, rfl, hb19, by rw [sizeLine_eq]; omega, ?_⟩
        refine ⟨gs ++ [(kSlide, [s1, s2])], zs ++ [.ref l], _, rfl, m9.put nb1 b1r, upd_same, ?_, fun k hk => ?_, by rw [List.length_append, hgl]; rfl, by rw [upd_ne (Ne.symm h12)]; exact hb29, ?_⟩
        · rw [hid_put b1r]
          exact pd_app (hgs9.put hb1r9) (.cons ⟨l, rfl, sqT_upd hb1r9 hl9⟩ .nil)
        · rcases List.mem_append.mp hk with z | z
          · exact hgok k z
          · have : k = (kSlide, [s1, s2]) := by simpa using z
            rw [this]
            exact vi_slide s10 (by omega) s20 (by omega)
        · rw [hid_put b1r]
          exact sqT_upd hb1r9 hai9
      · rintro σ H6 ⟨gs, zs, w6, rfl, m6, hb16, hgs, hgok, hgl, hb26, hai6⟩
        have zlen : zs.length = gs.length := hgs.length
        have row6 := row.mv m6
        -- the instruction itself, or a say
        have fin : ∀ (N : L2.St → Hp → Prop) (H8 : Hp) (l : Addr) (kx : Ins), Mv c d.T r H6 H8 → SqT K (hid r H8) l (.str (S kx.1) :: kx.2.map V.int) → VI books (p.length : Int) kx →
            (∀ σ H', (∃ (fs : List Ins) (ys : List V) (ss : List Int) (w5 w6 : Option V), σ = [some (.ref r), some (.ref a), some (.int n), some (.ref b1), some (.ref b2), w5, w6] ∧ Mv c d.T r H H' ∧ H' b1 = some (.lst ys) ∧ InsTs K (hid r H') ys fs ∧ (∀ i ∈ fs, VI books (p.length : Int) i) ∧
              fs.length ≤ 3 * (i + 1) ∧ i + 1 ≤ fs.length ∧ H' b2 = some (.lst (ss.map V.int)) ∧ ss.length = i + 1 ∧ ∀ z ∈ ss, 0 ≤ z ∧ z ≤ (fs.length : Int)) → N σ H') →
            rAppend (.ref b1) [.ref l] H8 fun _ H9 => N [some (.ref r), some (.ref a), some (.int n), some (.ref b1), some (.ref b2), some (.ref ai), w6] H9 := by
          intro N H8 l kx m68 hl vi hN
          have hb18 := m68.lst b1r hb16
          have hb28 := m68.lst b2r hb26
          have hb1r8 : (hid r H8) b1 = some (.lst zs) := by rw [hid_ne b1r]; exact hb18
          refine ⟨b1, _, _, rfl, rfl, hb18, by rw [sizeLine_eq]; omega, hN _ _ ⟨gs ++ [kx], zs ++ [.ref l], ss ++ [(fs.length : Int)], _, _, rfl, (m6.trans m68).put nb1 b1r, upd_same, ?_, fun k hk => ?_, ?_, ?_, by rw [upd_ne (Ne.symm h12)]; exact hb28, by rw [List.length_append, hsl]; rfl, fun z hz => ?_⟩⟩
          · rw [hid_put b1r]
            exact pd_app ((hgs.go m68.go).put hb1r8) (.cons ⟨l, rfl, sqT_upd hb1r8 hl⟩ .nil)
          · rcases List.mem_append.mp hk with z | z
            · exact hgok k z
            · have : k = kx := by simpa using z
              rw [this]
              exact vi
          · rw [List.length_append]
            simp
            omega
          · rw [List.length_append]
            simp
            omega
          · rw [List.length_append]
            rcases List.mem_append.mp hz with y | y
            · have := hsz z y
              omega
            · have : z = (fs.length : Int) := by simpa using y
              omega
        refine ⟨_, rfl, Or.inl ⟨rfl, _, SqL.of hb16⟩, _, rfl, c, r, 25, rfl, row6, by decide, by decide, fun t H7 t0 t1 e7 row7 => ?_⟩
        have m67 := Mv.of_eq m6.tb m6.row e7 row7
        refine ⟨_, _, rfl, rfl, decide (0 < t), rfl, ?_⟩
        by_cases ct : 0 < t
        · rw [decide_eq_true ct]
          exact iteT ⟨_, rfl, fin _ _ ai ins m67 (m67.go.st hai6) (vq.ok ins (List.mem_of_getElem? hins)) fun _ _ z => z⟩
        · rw [decide_eq_false ct]
          refine iteF ⟨(show (1 : Nat) ≤ sizeLine by decide), fun l nl => ?_⟩
          have m8 := m67.then nl (o := .tup [.str "say"])
          refine fin _ _ l (kSay, []) m8 ?_ (vi_none (by decide)) fun _ _ z => z
          show SqT K _ l [.str (S kSay)]
          rw [← w_say]
          exact .inl (.inl (by rw [hid_ne (m67.row.ne nl)]; exact upd_same))
    · rintro σ H3 ⟨fs, ys, ss, w5, w6, rfl, m3, hb1, hfs, hok, hf3, hfi, hb2, hsl, hsz⟩
      have ylen : ys.length = fs.length := hfs.length
      refine ⟨_, rfl, Or.inl ⟨rfl, _, SqL.of hb2⟩, _, rfl, .ref b1, ys.length, rfl, Or.inl ⟨_, SqL.of hb1, rfl⟩, b2, _, _, rfl, rfl, hb2, by rw [List.length_map, sizeLine_eq]; omega, ?_⟩
      have m4 : Mv c d.T r H (upd H3 b2 (.lst (ss.map V.int ++ [.int (ys.length : Int)]))) := m3.put nb2H b2r
      have hb2r3 : (hid r H3) b2 = some (.lst (ss.map V.int)) := by rw [hid_ne b2r]; exact hb2
      have hfs4 : InsTs K (hid r (upd H3 b2 (.lst (ss.map V.int ++ [.int (ys.length : Int)])))) ys fs := by
        rw [hid_put b2r]
        exact hfs.put hb2r3
      have hb14 : (upd H3 b2 (.lst (ss.map V.int ++ [.int (ys.length : Int)]))) b1 = some (.lst ys) := by
        rw [upd_ne h12]
        exact hb1
      have hb24 : (upd H3 b2 (.lst (ss.map V.int ++ [.int (ys.length : Int)]))) b2 = some (.lst ((ss ++ [(fs.length : Int)]).map V.int)) := by
        rw [upd_same, List.map_append, ylen]
        rfl
      generalize upd H3 b2 (.lst (ss.map V.int ++ [.int (ys.length : Int)])) = H4 at m4 hfs4 hb14 hb24 ⊢
      have hs2 : ∀ z ∈ ss ++ [(fs.length : Int)], 0 ≤ z ∧ z ≤ (fs.length : Int) := fun z hz => by
        rcases List.mem_append.mp hz with y | y
        · exact hsz z y
        · have : z = (fs.length : Int) := by simpa using y
          omega
      have hs2l : (ss ++ [(fs.length : Int)]).length = p.length + 1 := by rw [List.length_append, hsl, xlen]; rfl
      generalize ss ++ [(fs.length : Int)] = ss2 at hb24 hs2 hs2l
      refine ⟨_, rfl, b1, rfl, ⟨_, SqL.of hb14⟩, fun D nD => ?_⟩
      refine lc_accR (c := c) (r := r) (walk_list (xs := ys)) m4.tb m4.row nD (fun H' m => SqL.of (m.lst b1r hb14)) yat_same (by omega)
        (fun i acc H' => ∃ ps : List Ins, InsTs K H' acc ps ∧ ps.length = i ∧ ∀ j ∈ ps, VI books (fs.length : Int) j) (fun i acc H5 H6 g p => ?_) ⟨[], .nil, rfl, by simp⟩
        (fun i x H5 H6 acc Post hi go hD hacc hy gy hp => ?_) (fun H5 acc m5 e5 p5 _ => ?_)
      · obtain ⟨ps, a, b⟩ := p
        exact ⟨ps, a.go g, b⟩
      · obtain ⟨rfl, hx⟩ := hy
        obtain ⟨ps, hps, hpl, hpa⟩ := hacc
        obtain ⟨kx, hkx, l, rfl, hl⟩ := pd_get (hfs4.go go.go) hx
        have vi := hok kx (List.mem_of_getElem? hkx)
        have hDr := m4.row.ne nD
        have hlu := SqT.up (r := r) hl
        refine ⟨rfl, ?_⟩
        refine yes_ ?_
        refine ⟨_, rfl, Or.inr (Or.inl ⟨l, _, 0, _, rfl, rfl, hlu, at0, (show (2 : Nat) ≤ sizeLine by decide), fun p7 n7 => ?_⟩)⟩
        have m7 := (Mv.refl gy.tb gy.row).then n7 (o := .lst [.str "zero", .str "go"])
        refine ⟨p7, _, rfl, Or.inl (SqL.of upd_same), rfl, rfl, isJump kx.1, by rw [if_neg (by decide)]; exact congrArg V.bl (in_jump _), ?_⟩
        have l7 := m7.go.st hl
        have l7u := SqT.up (r := r) l7
        have hD7 := m7.lst hDr hD
        by_cases cj : isJump kx.1 = true
        · rw [cj]
          obtain ⟨t, et, t0, t1⟩ := isJump_vi vi cj
          have htl : t.toNat < ss2.length := by omega
          have ett : t = ((t.toNat : Nat) : Int) := by omega
          have hat1 : atI (V.str (S kx.1) :: kx.2.map V.int) 1 = some (.int t) := by
            rw [et]
            rfl
          have hb27 := m7.lst b2r (go.lst b2r hb24)
          refine iteT ⟨_, rfl, Or.inr (Or.inl ⟨l, _, 0, _, rfl, rfl, l7u, at0, ?_⟩)⟩
          refine ⟨_, rfl, _, rfl, Or.inr (Or.inl ⟨l, _, 1, _, rfl, rfl, l7u, hat1, ?_⟩)⟩
          refine Or.inl ⟨b2, _, t, .int ss2[t.toNat], rfl, rfl, SqL.of hb27, ?_, (show (2 : Nat) ≤ sizeLine by decide), fun l8 n8 => ?_⟩
          · have := atI_nat (xs := ss2.map V.int) (j := t.toNat) (v := .int ss2[t.toNat]) (by rw [List.getElem?_map, List.getElem?_eq_getElem htl]; rfl)
            rwa [← ett] at this
          have m8 := m7.then n8 (o := .tup [.str (S kx.1), .int ss2[t.toNat]])
          have hz := hs2 _ (List.getElem_mem htl)
          refine hp _ (some _) m8 ⟨ps ++ [(kx.1, [ss2[t.toNat]])], ?_, by rw [List.length_append, hpl]; rfl, fun j hj => ?_⟩
          · refine pd_app (hps.go (go_hid m8.go (m8.go.t0.no (a := D) (by rw [hid_ne hDr]; exact hD) fun _ z => by cases z))) (.cons ⟨l8, rfl, tup_in upd_same (ne_of_none hD7 n8).symm (m7.row.ne n8)⟩ .nil)
          · rcases List.mem_append.mp hj with z | z
            · exact hpa j z
            · have : j = (kx.1, [ss2[t.toNat]]) := by simpa using z
              rw [this]
              exact vi_jump cj hz.1 hz.2
        · rw [show isJump kx.1 = false by simpa using cj]
          refine iteF ⟨_, rfl, ?_⟩
          refine hp _ (some _) m7 ⟨ps ++ [kx], ?_, by rw [List.length_append, hpl]; rfl, fun j hj => ?_⟩
          · refine pd_app (hps.go (go_hid m7.go (m7.go.t0.no (a := D) (by rw [hid_ne hDr]; exact hD) fun _ z => by cases z))) (.cons ⟨l, rfl, sqT_hide (by rw [hid_ne hDr]; exact hD7) l7⟩ .nil)
          · rcases List.mem_append.mp hj with z | z
            · exact hpa j z
            · have : j = kx := by simpa using z
              rw [this]
              exact vi_mono vi fun z => absurd z cj
      · obtain ⟨ps, hps, hpl, hpa⟩ := p5
        refine ⟨D, acc, rfl, Or.inl ⟨SqL.of e5, fun l nl => ?_⟩⟩
        have m6 := (Mv.refl m5.tb m5.row).then nl (o := .tup acc)
        have pl2 : ps.length = fs.length := by rw [hpl, ylen]
        have pne := List.length_pos_iff.mpr vq.ne
        refine q ps _ _ ⟨fun z => ?_, by omega, fun j hj => by rw [pl2]; exact hpa j hj⟩ ((m4.trans m5).trans m6) (.tup (.inl (.inl (by rw [hid_ne (m5.row.ne nl)]; exact upd_same))) (hps.go m6.go).dp)
        rw [z] at pl2
        simp at pl2
        omega
end
end HK
set_option Elab.async false
set_option linter.all false
set_option maxRecDepth 100000
set_option maxHeartbeats 2000000
namespace HK
open PySem PySem.Spec PyProof.Rows L2 SX
theorem joinL_len {m : Nat} (sep : List Nat) : ∀ {r : List (List Nat)}, (∀ w ∈ r, w.length ≤ m) → (TL.joinL sep r).length ≤ (m + sep.length) * r.length
  | [], _ => by simp [TL.joinL]
  | [w], h => by
    have := h w (by simp)
    simp [TL.joinL]
    omega
  | w :: v :: r, h => by
    have h1 := h w (by simp)
    have h2 := joinL_len sep (r := v :: r) fun z hz => h z (List.mem_cons_of_mem _ hz)
    have e : TL.joinL sep (w :: v :: r) = w ++ (sep ++ TL.joinL sep (v :: r)) := rfl
    rw [e, List.length_append, List.length_append, List.length_cons (a := w), Nat.mul_succ]
    omega
theorem join_any {K : PySem.W.Frag} {H : Hp} {p : Addr} {sep : List Nat} {ws : List (List Nat)} {Q : VK} (h : SqL K H p (ws.map wV)) (hl : ∀ r ∈ ws, r.length ≤ 1000) (hn : ws.length ≤ 6000) (hs : sep.length ≤ 10) (q : Q (.str (S (TL.joinL sep ws))) H) : rJoin K (.str (S sep)) [.ref p] H Q := by
  refine ⟨_, p, ws.map S, rfl, rfl, .inl ?_, ?_, ?_⟩
  · have e : (ws.map S).map V.str = ws.map wV := by
      rw [List.map_map]
      rfl
    rw [e]
    exact h
  · have h1 := sum_le (m := 1000) (ys := ws.map S) (fun y hy => by
      obtain ⟨l, hl', rfl⟩ := List.mem_map.mp hy
      rw [S_len]
      exact hl l hl')
    rw [S_len]
    rw [List.length_map] at h1 ⊢
    have : ws.length * sep.length ≤ ws.length * 10 := Nat.mul_le_mul_left _ hs
    omega
  · rw [join_S]
    exact q
theorem flat_rep (n : Nat) : (List.replicate n [32]).flatten = List.replicate n 32 := by
  induction n with
  | zero => rfl
  | succ n ih =>
    rw [List.replicate_succ, List.flatten_cons, ih]
    rfl
theorem spc {K : Nat} {v : Int} {H : Hp} {Q : VK} (h0 : 0 ≤ v) (h1 : v ≤ 100) (q : Q (.str (S (List.replicate v.toNat 32))) H) : rMulS (.str (" " : Str)) (.int v) H Q := by
  refine ⟨_, v, rfl, rfl, h0, h1, by decide +kernel, ?_⟩
  rw [show ((" " : Str).cps.toList) = [32] by decide +kernel, flat_rep]
  exact q
theorem lit_sp2 : ("  " : Str) = S [32, 32] := by decide +kernel
theorem lit_sp3 : ("   " : Str) = S [32, 32, 32] := by decide +kernel
theorem standW_wd (o : Option Int) : Wd (standW o) := by
  cases o with
  | none => exact ⟨by decide, by decide, by decide⟩
  | some b => exact intL_wd b
/-- rows as the law has them -/
structure RwS (rows : List (List (List Nat))) : Prop where
  ne : rows ≠ []
  few : rows.length ≤ 40
  rw : ∀ r ∈ rows, Rw r
  four : ∀ r ∈ rows, r.length ≤ 4
  nine : ∀ r ∈ rows, ∀ w ∈ r, w.length ≤ 9
theorem RwS.row {rows : List (List (List Nat))} (h : RwS rows) {r : List (List Nat)} (hr : r ∈ rows) : (rowL r).length ≤ 40 := by
  have h1 := rowL_len (m := 9) (h.nine r hr)
  have h2 := h.four r hr
  have : (9 + 1) * r.length ≤ 10 * 4 := Nat.mul_le_mul_left _ h2
  omega
theorem RwS.text {rows : List (List (List Nat))} (h : RwS rows) : (textL rows).length ≤ 2000 := by
  have h1 := joinL_len (m := 40) [10] (r := rows.map rowL) fun w hw => by
    obtain ⟨r, hr, rfl⟩ := List.mem_map.mp hw
    exact h.row hr
  rw [List.length_map] at h1
  have h2 := h.few
  have : (40 + [10].length) * rows.length ≤ 41 * 40 := Nat.mul_le_mul_left _ h2
  unfold textL
  omega
theorem RwS.cut {rows : List (List (List Nat))} (h : RwS rows) : cutAt 10 (textL rows) = rows.map rowL := by
  unfold textL
  refine cutAt_join (fun z => h.ne (List.map_eq_nil_iff.mp z)) fun l hl => ?_
  obtain ⟨r, hr, rfl⟩ := List.mem_map.mp hl
  exact rowL_free (h.rw r hr)
theorem row_cut {r : List (List Nat)} (h : Rw r) : cutAt 32 (rowL r) = r := by
  unfold rowL
  exact cutAt_join h.1 fun l hl => (h.2 l hl).2.1
section
variable {P : Program} {w : World} {K : PySem.W.Frag} {mg : Str → Option Value} {base : Heap} {d : Ad}
def spLLine (K : PySem.W.Frag) (d : Ad) : Sp := fun vs H Q _ => ∃ (c : Scr) (r : Addr) (v : V) (n : Int) (st : List (Option Int)), vs = [.ref r, v] ∧ RowA K c H r ∧ Tb d.T H ∧ Dp K (hid r H) v (standD st) ∧ VS n st ∧
  ∀ (t : List Nat) (p : Addr) H', wordsL t = st.map standW → t.length ≤ 1000 → Mv c d.T r H H' → SqT K (hid r H') p [.str (S t), .str (S (standText st))] → Q (.ref p) H'
theorem dk_law_line (T : Tx K mg d) : DK P w K mg base CX0 2 "_law_line" (spLLine K d) := by
  have d_law_taken : DK P w K mg base CX0 1 "_law_taken" (spLTaken K) := dk_law_taken T
  refine T.d_law_line.dk0 sc_law_line (fun vs H Q E h => ?_) fun f cdv A outer s H vs Q E hr h => ?_
  · obtain ⟨_, _, _, _, _, rfl, _⟩ := h
    rfl
  · obtain ⟨c, r, v, n, st, rfl, row, tb, hv, V0, q⟩ := h
    obtain ⟨a, xs, rfl, ha, hall⟩ := Dp.tup_inv hv
    have ex := stand_inv hall
    subst ex
    have hlen := V0.len
    have hn7 := V0.n7
    have hn2 := V0.n2
    have ha' := SqT.up (r := r) ha
    refine ⟨_, (pss_cons (ps_setLc (i := 2) (own := [("_law_book", 3)]) (by rfl) sc_law_line.nd rfl rfl (sw_true rfl rfl rfl (by decide +kernel)) (pi_tupK K rfl (pv 1)) (blkOk_by (own := [("_law_book", 3)]) (N := n_law_line) (sc := defScope s_law_line) (by decide +kernel)) (fun _ _ _ _ _ => by exact (pg_name (i := 3) sc_law_line.nd rfl (Or.inl rfl))) (fun _ _ _ _ _ => by exact pts_nil) (fun _ _ _ _ _ => by exact (pe_ifExp (pt_cmpR op_isN (pv 3) pe_non (nomark _)) pe_str (pe_callTy call_str_int (by rfl) T.f_str (by decide +kernel) (pa_cons (pv 3) pa_nil)))))
    (pss_one (ps_ret (pe_tup (pa_cons (pe_op op_add_str (pe_op op_add_str (pe_op op_mulS pe_str (pe_d d_law_taken hr (by decide) rfl pass0 (pa_cons (pv 0) (pa_cons pe_int pa_nil)))) (pe_joinK K rfl pe_str (pv 2))) (pe_op op_mulS pe_str (pe_d d_law_taken hr (by decide) rfl pass0 (pa_cons (pv 0) (pa_cons pe_int pa_nil))))) (pa_cons (pe_joinK K rfl pe_str (pv 2)) pa_nil)))))), ?_⟩
    refine ⟨_, rfl, a, rfl, ⟨_, ha'⟩, fun D nD => ?_⟩
    refine lc_val walk_tup tb nD (fun H' g => g.st ha') yat_same (by simp; omega) (fun i => (st[i]?).bind fun o => some (wV (standW o))) (fun i x H' H'' Post hi go hy gy hp => ?_) (fun H1 g1 e1 => ?_)
    · obtain ⟨rfl, hx⟩ := hy
      rw [List.getElem?_map] at hx
      cases e : st[i]? with
      | none => rw [e] at hx; cases hx
      | some o =>
        rw [e] at hx
        have ex : x = bookV o := (Option.some.inj hx).symm
        subst ex
        have hp' := hp H'' (Go.refl go.t1)
        rw [e] at hp'
        refine ⟨rfl, ?_⟩
        refine yes_ ?_
        refine book_elt (i := 3) (o := o) rfl (fun b hb' => vs_abs V0 (by rw [← hb']; exact List.mem_of_getElem? e)) ?_
        exact hp'
    · rw [List.length_map, range_get, map_filterMap_some] at e1
      have e1' : H1 D = some (.lst ((st.map standW).map wV)) := by
        rw [e1, List.map_map]
        rfl
      have m1 := Mv.of_go row.row g1
      have hDr := row.row.ne nD
      have wl : ∀ w ∈ st.map standW, w.length ≤ 9 := fun w hw => by
        obtain ⟨o, ho, rfl⟩ := List.mem_map.mp hw
        exact standW_len fun b hb => vs_abs V0 (by rw [← hb]; exact ho)
      refine ⟨_, rfl, c, r, 2, rfl, row.mv m1, by decide, by decide, fun v1 H2 v10 v11 e2 row2 => ?_⟩
      have m2 := m1.eqs e2 row2
      have hD2 := (Mv.of_eq m1.tb m1.row e2 row2).lst hDr e1'
      refine spc (K := 0) v10 (by omega) ?_
      have jl := joinL_len (m := 9) [32, 32] (r := st.map standW) wl
      rw [List.length_map] at jl
      have jl2 : (9 + [32, 32].length) * st.length ≤ 11 * 7 := Nat.mul_le_mul_left _ (by omega)
      refine ⟨⟨_, rfl⟩, _, rfl, ?_⟩
      rw [lit_sp2]
      refine join_any (SqL.of hD2) (fun r hr => by have := wl r hr; omega) (by rw [List.length_map]; omega) (by decide) ?_
      refine ⟨_, _, rfl, rfl, by rw [S_len, S_len, List.length_replicate, sizeLine_eq]; omega, ?_⟩
      refine ⟨_, rfl, c, r, 2, rfl, row.mv m2, by decide, by decide, fun v2 H3 v20 v21 e3 row3 => ?_⟩
      have m3 := m2.eqs e3 row3
      have hD3 := (Mv.of_eq m2.tb m2.row e3 row3).lst hDr hD2
      refine spc (K := 0) v20 (by omega) ?_
      rw [S_cat]
      refine ⟨_, _, rfl, rfl, by rw [S_len, S_len, List.length_append, List.length_replicate, List.length_replicate, sizeLine_eq]; omega, ?_⟩
      rw [S_cat]
      refine ⟨⟨_, rfl⟩, _, rfl, ?_⟩
      refine join_words (SqL.of hD3) (fun r hr => by have := wl r hr; omega) (by rw [List.length_map]; omega) ?_
      refine ⟨(show (2 : Nat) ≤ sizeLine by decide), fun p4 n4 => ?_⟩
      have m4 := m3.then n4 (o := .tup [.str (S (List.replicate v1.toNat 32 ++ TL.joinL [32, 32] (st.map standW) ++ List.replicate v2.toNat 32)), .str (S (rowL (st.map standW)))])
      refine q _ p4 _ ?_ ?_ m4 (.inl (.inl (by rw [hid_ne (m3.row.ne n4)]; exact upd_same)))
      · rw [wordsL_spe, wordsL_sps]
        exact wordsL_join 1 _ fun w hw => by
          obtain ⟨o, _, rfl⟩ := List.mem_map.mp hw
          exact standW_wd o
      · rw [List.length_append, List.length_append, List.length_replicate, List.length_replicate]
        omega
end
end HK
set_option Elab.async false
set_option linter.all false
set_option maxRecDepth 100000
set_option maxHeartbeats 2000000
namespace HK
open PySem PySem.Spec PyProof.Rows L2 SX
/-- lines such as the loose text has -/
structure LsA (ls : List (List Nat)) (rows : List (List (List Nat))) : Prop where
  ws : (ls.map wordsL).filter (fun w => !w.isEmpty) = rows
  nl : ∀ l ∈ ls, 10 ∉ l
  len : ∀ l ∈ ls, l.length ≤ 60
theorem LsA.nil : LsA [] [] := ⟨rfl, by simp, by simp⟩
theorem LsA.blank {ls : List (List Nat)} {rows : List (List (List Nat))} (h : LsA ls rows) (k m : Nat) (hk : k ≤ 60) : LsA (ls ++ List.replicate m (List.replicate k 32)) rows := by
  have e : wordsL (List.replicate k 32) = [] := by
    have := wordsL_sps k []
    rw [List.append_nil] at this
    rw [this]
    rfl
  refine ⟨?_, fun l hl => ?_, fun l hl => ?_⟩
  · rw [List.map_append, List.filter_append, h.ws, List.map_replicate, e]
    have : (List.replicate m ([] : List (List Nat))).filter (fun w => !w.isEmpty) = [] := by
      rw [List.filter_eq_nil_iff]
      intro a ha
      rw [(List.mem_replicate.mp ha).2]
      decide
    rw [this, List.append_nil]
  · rcases List.mem_append.mp hl with z | z
    · exact h.nl l z
    · rw [(List.mem_replicate.mp z).2]
      intro y
      have := (List.mem_replicate.mp y).2
      cases this
  · rcases List.mem_append.mp hl with z | z
    · exact h.len l z
    · rw [(List.mem_replicate.mp z).2, List.length_replicate]
      exact hk
theorem LsA.row {ls : List (List Nat)} {rows : List (List (List Nat))} (h : LsA ls rows) {r : List (List Nat)} (hr : Rw r) (h4 : r.length ≤ 4) (h9 : ∀ w ∈ r, w.length ≤ 9) (k : Nat) (hk : k ≤ 2) :
    LsA (ls ++ [List.replicate k 32 ++ TL.joinL [32, 32, 32] r ++ [32]]) (rows ++ [r]) := by
  have e : wordsL (List.replicate k 32 ++ TL.joinL [32, 32, 32] r ++ [32]) = r := by
    have h1 := wordsL_spe 1 (List.replicate k 32 ++ TL.joinL [32, 32, 32] r)
    rw [show List.replicate 1 32 = [32] from rfl] at h1
    rw [h1, wordsL_sps]
    exact wordsL_join 2 r hr.2
  refine ⟨?_, fun l hl => ?_, fun l hl => ?_⟩
  · rw [List.map_append, List.filter_append, h.ws]
    congr 1
    rw [List.map_singleton, e]
    have : r.isEmpty = false := by
      cases r with
      | nil => exact absurd rfl hr.1
      | cons a b => rfl
    simp [this]
  · rcases List.mem_append.mp hl with z | z
    · exact h.nl l z
    · have : l = List.replicate k 32 ++ TL.joinL [32, 32, 32] r ++ [32] := List.mem_singleton.mp z
      rw [this]
      simp only [List.mem_append, not_or]
      refine ⟨⟨fun y => ?_, joinL_free (by decide) fun w hw => (hr.2 w hw).2.2⟩, by decide⟩
      have := (List.mem_replicate.mp y).2
      cases this
  · rcases List.mem_append.mp hl with z | z
    · exact h.len l z
    · have : l = List.replicate k 32 ++ TL.joinL [32, 32, 32] r ++ [32] := List.mem_singleton.mp z
      rw [this]
      have jl := joinL_len (m := 9) [32, 32, 32] h9
      have : (9 + [32, 32, 32].length) * r.length ≤ 12 * 4 := Nat.mul_le_mul_left _ h4
      rw [List.length_append, List.length_append, List.length_replicate]
      simp
      omega
theorem LsA.lines {ls : List (List Nat)} {rows : List (List (List Nat))} (h : LsA ls rows) (hne : ls ≠ []) : (linesL (TL.joinL [10] ls)).map (·.1) = rows := by
  unfold linesL
  rw [cutAt_join hne h.nl, numbered_words, h.ws]
section
variable {P : Program} {w : World} {K : PySem.W.Frag} {mg : Str → Option Value} {base : Heap} {d : Ad}
def spLLoose (K : PySem.W.Frag) (d : Ad) : Sp := fun vs H Q _ => ∃ (c : Scr) (r : Addr) (rows : List (List (List Nat))), vs = [.ref r, .str (S (textL rows))] ∧ RowA K c H r ∧ Tb d.T H ∧ RwS rows ∧
  ∀ (t : List Nat) H', (linesL t).map (·.1) = rows → t.length ≤ 5000 → Mv c d.T r H H' → Q (.str (S t)) H'
theorem dk_law_loose (T : Tx K mg d) : DK P w K mg base CX0 2 "_law_loose" (spLLoose K d) := by
  have d_law_taken : DK P w K mg base CX0 1 "_law_taken" (spLTaken K) := dk_law_taken T
  refine T.d_law_loose.dk0 sc_law_loose (fun vs H Q E h => ?_) fun f cdv A outer s H vs Q E hr h => ?_
  · obtain ⟨_, _, _, rfl, _⟩ := h
    rfl
  · obtain ⟨c, r, rows, rfl, row, tb, RS, q⟩ := h
    have htl := RS.text
    have few := RS.few
    refine ⟨_, (pss_cons (ps_set (i := 2) sc_law_loose.nd rfl (Or.inl rfl) (pe_lst pa_nil))
    (pss_cons (ps_for PassesOwn.never rfl (pi_listK K rfl (pe_split (pv 1) pe_str)) (pg_name (i := 3) sc_law_loose.nd rfl (Or.inl rfl))
      (pss_cons (ps_set (i := 2) sc_law_loose.nd rfl (Or.inl rfl) (pe_op op_cat (pv 2) (pe_op op_rep (pe_lst (pa_cons (pe_op op_mulS pe_str (pe_d d_law_taken hr (by decide) rfl pass0 (pa_cons (pv 0) (pa_cons pe_int pa_nil)))) pa_nil)) (pe_d d_law_taken hr (by decide) rfl pass0 (pa_cons (pv 0) (pa_cons pe_int pa_nil))))))
      (pss_one (ps_expr (pe_bm PySem.F.plainAttrs_list PySem.F.slot_list_append PySem.F.type_list_append mt_append (pv 2) (pa_cons (pe_op op_add_str (pe_op op_add_str (pe_op op_mulS pe_str (pe_d d_law_taken hr (by decide) rfl pass0 (pa_cons (pv 0) (pa_cons pe_int pa_nil)))) (pe_joinK K rfl pe_str (pe_split (pv 3) pe_str))) pe_str) pa_nil))))))
    (pss_one (ps_ret (pe_joinK K rfl pe_str (pv 2)))))), ?_⟩
    refine ⟨(show (0 : Nat) ≤ sizeLine by decide), fun b0 nb0 => ?_⟩
    have m0 := (Mv.refl tb row.row).then nb0 (o := .lst [])
    have hb0 : (upd H b0 (.lst [])) b0 = some (.lst []) := upd_same
    generalize upd H b0 (.lst []) = H0 at m0 hb0 ⊢
    refine ⟨_, rfl, ⟨_, rfl⟩, S (textL rows), _, rfl, rfl, by decide +kernel, by rw [S_len, sizeLine_eq]; omega, fun p np => ?_⟩
    rw [split_nl, RS.cut]
    have m1 := m0.then np (o := .lst (((rows.map rowL).map S).map V.str))
    have hbp : b0 ≠ p := ne_of_none hb0 np
    have npH := m0.free np
    have pr := row.row.ne npH
    have hp1 : (upd H0 p (.lst (((rows.map rowL).map S).map V.str))) p = some (.lst (((rows.map rowL).map S).map V.str)) := upd_same
    have hb1 : (upd H0 p (.lst (((rows.map rowL).map S).map V.str))) b0 = some (.lst []) := by rw [upd_ne hbp]; exact hb0
    generalize upd H0 p (.lst (((rows.map rowL).map S).map V.str)) = H1 at m1 hp1 hb1 ⊢
    refine ⟨p, rfl, ⟨_, SqL.of hp1⟩, ?_⟩
    refine for_list (K := K) (a := p) (xs := ((rows.map rowL).map S).map V.str) (fun i σ H' => ∃ (b : Addr) (ls : List (List Nat)) (w3 : Option V), σ = [some (.ref r), some (.str (S (textL rows))), some (.ref b), w3] ∧ Mv c d.T r H1 H' ∧ H' b = some (.lst (ls.map wV)) ∧
      LsA ls (rows.take i) ∧ ls.length ≤ 2 * i ∧ i ≤ ls.length) ⟨b0, [], none, rfl, Mv.refl m1.tb m1.row, hb1, by simpa using LsA.nil, by simp, by simp⟩ (fun i σ H' _ h => ?_) ?_ ?_
    · obtain ⟨_, _, _, _, m, _⟩ := h
      exact SqL.of (m.lst pr hp1)
    · rintro i x σ H2 hx ⟨b, ls, w3, rfl, m2, hb, la, ll, li⟩
      obtain ⟨rw_, hrw, rfl⟩ : ∃ rw_, rows[i]? = some rw_ ∧ x = .str (S (rowL rw_)) := by
        rw [List.getElem?_map, List.getElem?_map, List.getElem?_map] at hx
        cases e : rows[i]? with
        | none => rw [e] at hx; cases hx
        | some c => rw [e] at hx; exact ⟨c, rfl, (Option.some.inj hx).symm⟩
      have hmem := List.mem_of_getElem? hrw
      have hR := RS.rw rw_ hmem
      have h4 := RS.four rw_ hmem
      have h9 := RS.nine rw_ hmem
      have hi : i < rows.length := (List.getElem?_eq_some_iff.mp hrw).1
      have m02 := m1.trans m2
      refine ⟨_, rfl, _, rfl, c, r, 3, rfl, row.mv m02, by decide, by decide, fun v1 H3 v10 v11 e3 row3 => ?_⟩
      have m23 := Mv.of_eq m02.tb m02.row e3 row3
      have m03 := m02.trans m23
      refine spc (K := 0) v10 (by omega) ?_
      refine ⟨(show (1 : Nat) ≤ sizeLine by decide), fun p4 n4 => ?_⟩
      have m34 := (Mv.refl m03.tb m03.row).then n4 (o := .lst [.str (S (List.replicate v1.toNat 32))])
      have m04 := m03.trans m34
      refine ⟨_, rfl, c, r, 2, rfl, row.mv m04, by decide, by decide, fun v2 H5 v20 v21 e5 row5 => ?_⟩
      have m45 := Mv.of_eq m04.tb m04.row e5 row5
      have m05 := m04.trans m45
      have h45 := m45.lst (m03.row.ne n4) (xs := [.str (S (List.replicate v1.toNat 32))]) upd_same
      refine ⟨p4, v2, _, rfl, rfl, h45, by omega, by omega, by rw [sizeLine_eq]; simp; omega, fun p6 n6 => ?_⟩
      have m56 := (Mv.refl m05.tb m05.row).then n6 (o := .lst (List.replicate v2.toNat [.str (S (List.replicate v1.toNat 32))]).flatten)
      have m26 := (m23.trans m34).trans (m45.trans m56)
      have br : b ≠ r := fun z => by
        obtain ⟨_, _, _, hz, _⟩ := m02.row
        rw [z, hz] at hb
        have := HO.lst.inj (Option.some.inj hb)
        cases ls with
        | nil => cases this
        | cons a b => cases this
      have hb6 := m26.lst br hb
      refine ⟨b, p6, _, _, rfl, rfl, hb6, upd_same, by rw [List.length_map, List.length_flatten, sizeLine_eq]; simp; omega, fun p7 n7 => ?_⟩
      have m67 := (Mv.refl (m05.trans m56).tb (m05.trans m56).row).then n7 (o := .lst (ls.map wV ++ (List.replicate v2.toNat [.str (S (List.replicate v1.toNat 32))]).flatten))
      have ecat : ls.map wV ++ (List.replicate v2.toNat [V.str (S (List.replicate v1.toNat 32))]).flatten = (ls ++ List.replicate v2.toNat (List.replicate v1.toNat 32)).map wV := by
        rw [List.map_append, List.map_replicate]
        congr 1
        have : ∀ k : Nat, (List.replicate k [V.str (S (List.replicate v1.toNat 32))]).flatten = List.replicate k (wV (List.replicate v1.toNat 32)) := fun k => by
          induction k with
          | zero => rfl
          | succ k ih =>
            rw [List.replicate_succ, List.flatten_cons, List.replicate_succ, ih]
            rfl
        exact this _
      have m27 := m26.trans m67
      have m07 := m02.trans m27
      have p7r : p7 ≠ r := (m05.trans m56).row.ne n7
      have h7 : (upd (upd H5 p6 (.lst (List.replicate v2.toNat [.str (S (List.replicate v1.toNat 32))]).flatten)) p7 (.lst (ls.map wV ++ (List.replicate v2.toNat [.str (S (List.replicate v1.toNat 32))]).flatten))) p7 = some (.lst ((ls ++ List.replicate v2.toNat (List.replicate v1.toNat 32)).map wV)) := by
        rw [upd_same, ecat]
      have n7b : H1 p7 = none := (m2.trans m26).free n7
      have la7 := la.blank v1.toNat v2.toNat (by omega)
      have ll7 : (ls ++ List.replicate v2.toNat (List.replicate v1.toNat 32)).length = ls.length + v2.toNat := by rw [List.length_append, List.length_replicate]
      generalize ls ++ List.replicate v2.toNat (List.replicate v1.toNat 32) = ls7 at h7 la7 ll7
      generalize upd (upd H5 p6 (.lst (List.replicate v2.toNat [.str (S (List.replicate v1.toNat 32))]).flatten)) p7 (.lst (ls.map wV ++ (List.replicate v2.toNat [.str (S (List.replicate v1.toNat 32))]).flatten)) = H7 at m27 m07 h7 ⊢
      refine ⟨_, rfl, Or.inl ⟨rfl, _, SqL.of h7⟩, _, rfl, c, r, 2, rfl, row.mv m07, by decide, by decide, fun v3 H8 v30 v31 e8 row8 => ?_⟩
      have m78 := Mv.of_eq m07.tb m07.row e8 row8
      have m08 := m07.trans m78
      refine spc (K := 0) v30 (by omega) ?_
      have hrl := RS.row hmem
      refine ⟨⟨_, rfl⟩, _, rfl, ⟨_, rfl⟩, S (rowL rw_), _, rfl, rfl, by decide +kernel, by rw [S_len, sizeLine_eq]; omega, fun p9 n9 => ?_⟩
      rw [split_sp, row_cut hR]
      have m89 := (Mv.refl m08.tb m08.row).then n9 (o := .lst ((rw_.map S).map V.str))
      have ew : (rw_.map S).map V.str = rw_.map wV := by
        rw [List.map_map]
        rfl
      rw [lit_sp3]
      have jl := joinL_len (m := 9) [32, 32, 32] h9
      have jl2 : (9 + [32, 32, 32].length) * rw_.length ≤ 12 * 4 := Nat.mul_le_mul_left _ h4
      refine join_any (ws := rw_) (SqL.of (by rw [upd_same, ew])) (fun z hz => by have := h9 z hz; omega) (by omega) (by decide) ?_
      refine ⟨_, _, rfl, rfl, by rw [S_len, S_len, List.length_replicate, sizeLine_eq]; omega, ?_⟩
      rw [S_cat]
      refine ⟨_, _, rfl, rfl, by rw [S_len, lit_sp, S_len, List.length_append, List.length_replicate, sizeLine_eq]; simp; omega, ?_⟩
      rw [lit_sp, S_cat]
      have m79 := m78.trans m89
      have h9' := m79.lst p7r h7
      refine ⟨p7, _, _, rfl, rfl, h9', by rw [List.length_map, sizeLine_eq]; omega, ?_⟩
      have et : rows.take (i + 1) = rows.take i ++ [rw_] := by
        rw [List.take_succ, hrw]
        rfl
      refine ⟨p7, ls7 ++ [List.replicate v3.toNat 32 ++ TL.joinL [32, 32, 32] rw_ ++ [32]], _, rfl, ((m2.trans m27).trans m79).put n7b p7r, by rw [upd_same, List.map_append]; rfl, by rw [et]; exact la7.row hR h4 h9 v3.toNat (by omega), ?_, ?_⟩
      · rw [List.length_append, ll7]
        simp
        omega
      · rw [List.length_append, ll7]
        simp
        omega
    · rintro σ H2 ⟨b, ls, w3, rfl, m2, hb, la, ll, li⟩
      rw [List.length_map, List.length_map, List.length_map] at la ll li
      rw [List.take_length] at la
      have rne := List.length_pos_iff.mpr RS.ne
      have lne : ls ≠ [] := fun z => by
        rw [z] at li
        have : rows.length ≤ 0 := li
        omega
      have jl := joinL_len (m := 60) [10] (r := ls) la.len
      have jl2 : (60 + [10].length) * ls.length ≤ 61 * 80 := Nat.mul_le_mul_left _ (by omega)
      refine ⟨⟨_, rfl⟩, _, rfl, ?_⟩
      rw [lit_nl]
      refine join_any (ws := ls) (SqL.of hb) (fun z hz => by have := la.len z hz; omega) (by omega) (by decide) ?_
      exact q _ _ (la.lines lne) (by omega) (m1.trans m2)
end
end HK
set_option Elab.async false
set_option linter.all false
set_option maxRecDepth 100000
set_option maxHeartbeats 2000000
namespace HK
open PySem PySem.Spec PyProof.Rows L2 SX
theorem cut_take {xs : List V} {k : Nat} (h : k ≤ xs.length) : cutV xs none (some (k : Int)) = xs.take k := by
  unfold cutV
  rw [HT.sIx_none, HT.sIx_nat, List.drop_zero, Nat.sub_zero, Nat.min_eq_left h]
theorem cut_drop {xs : List V} {k : Nat} (h : k ≤ xs.length) : cutV xs (some (k : Int)) none = xs.drop k := by
  unfold cutV
  rw [HT.sIx_none, HT.sIx_nat, Nat.min_eq_left h, List.take_of_length_le (by rw [List.length_drop]; omega)]
theorem set_parts {α : Type} {xs : List α} {k : Nat} {y : α} (h : k < xs.length) : xs.take k ++ [y] ++ xs.drop (k + 1) = xs.set k y := by
  rw [List.set_eq_take_append_cons_drop, if_pos h, List.append_assoc]
  rfl
section
variable {P : Program} {w : World} {K : PySem.W.Frag} {mg : Str → Option Value} {base : Heap} {d : Ad}
def spLBent (K : PySem.W.Frag) (d : Ad) : Sp := fun vs H Q _ => ∃ (c : Scr) (r pw : Addr) (rows : List (List (List Nat))) (ws : List (List Nat)), vs = [.ref r, .str (S (textL rows)), .ref pw] ∧ RowA K c H r ∧ Tb d.T H ∧ RwS rows ∧ SqL K (hid r H) pw (ws.map wV) ∧ 1 ≤ ws.length ∧ ws.length ≤ 1000 ∧ (∀ z ∈ ws, z.length ≤ 9) ∧
  ∀ (k : Nat) (row : List (List Nat)) (j : Nat) (z : List Nat) (p : Addr) H', rows[k]? = some row → j < row.length → z ∈ ws → Mv c d.T r H H' → SqT K (hid r H') p [.str (S (textL (rows.set k (row.set j z)))), .int ((k : Int) + 1), .int ((j : Int) + 1)] → Q (.ref p) H'
theorem dk_law_bent (T : Tx K mg d) : DK P w K mg base CX0 3 "_law_bent" (spLBent K d) := by
  have d_law_taken : DK P w K mg base CX0 1 "_law_taken" (spLTaken K) := dk_law_taken T
  have d_law_pick : DK P w K mg base CX0 2 "_law_pick" (spLPick K) := dk_law_pick T
  refine T.d_law_bent.dk0 sc_law_bent (fun vs H Q E h => ?_) fun f cdv A outer s H vs Q E hr h => ?_
  · obtain ⟨_, _, _, _, _, rfl, _⟩ := h
    rfl
  · obtain ⟨c, r, pw, rows, ws, rfl, row, tb, RS, hpw, hw1, hw2, hw9, q⟩ := h
    have htl := RS.text
    have few := RS.few
    refine ⟨_, (pss_cons (ps_set (i := 3) sc_law_bent.nd rfl (Or.inl rfl) (pe_split (pv 1) pe_str))
    (pss_cons (ps_set (i := 4) sc_law_bent.nd rfl (Or.inl rfl) (pe_d d_law_taken hr (by decide) rfl pass0 (pa_cons (pv 0) (pa_cons (pe_callB (call_lenK K rfl) (by rfl) T.f_len (by decide +kernel) (pa_cons (pv 3) pa_nil)) pa_nil))))
    (pss_cons (ps_set (i := 5) sc_law_bent.nd rfl (Or.inl rfl) (pe_split (pe_ix (ix_seqK K rfl) (pv 3) (pv 4) (fun _ _ => rfl)) pe_str))
    (pss_cons (ps_set (i := 6) sc_law_bent.nd rfl (Or.inl rfl) (pe_d d_law_taken hr (by decide) rfl pass0 (pa_cons (pv 0) (pa_cons (pe_callB (call_lenK K rfl) (by rfl) T.f_len (by decide +kernel) (pa_cons (pv 5) pa_nil)) pa_nil))))
    (pss_cons (ps_asg (pe_d d_law_pick hr (by decide) rfl pass0 (pa_cons (pv 0) (pa_cons (pv 2) pa_nil))) (pg_sub (pv 5) (pv 6) set_list))
    (pss_one (ps_ret (pe_tup (pa_cons (pe_joinK K rfl pe_str (pe_op op_cat (pe_op op_cat (pe_slice (sl_listK K rfl) (pv 3) po_none (po_some (pv 4))) (pe_lst (pa_cons (pe_joinK K rfl pe_str (pv 5)) pa_nil))) (pe_slice (sl_listK K rfl) (pv 3) (po_some (pe_op op_add (pv 4) pe_int)) po_none))) (pa_cons (pe_op op_add (pv 4) pe_int) (pa_cons (pe_op op_add (pv 6) pe_int) pa_nil))))))))))), ?_⟩
    refine ⟨_, rfl, ⟨_, rfl⟩, S (textL rows), _, rfl, rfl, by decide +kernel, by rw [S_len, sizeLine_eq]; omega, fun p1 np1 => ?_⟩
    rw [split_nl, RS.cut]
    have m1 := (Mv.refl tb row.row).then np1 (o := .lst (((rows.map rowL).map S).map V.str))
    have p1r := row.row.ne np1
    have ers : ((rows.map rowL).map S).map V.str = (rows.map rowL).map wV := by
      rw [List.map_map]
      rfl
    have hp1 : (upd H p1 (.lst (((rows.map rowL).map S).map V.str))) p1 = some (.lst ((rows.map rowL).map wV)) := by rw [upd_same, ers]
    generalize upd H p1 (.lst (((rows.map rowL).map S).map V.str)) = H1 at m1 hp1 ⊢
    refine ⟨_, rfl, _, rfl, .ref p1, rows.length, rfl, Or.inl ⟨_, SqL.of hp1, by simp⟩, c, r, (rows.length : Int), rfl, row.mv m1, by have := List.length_pos_iff.mpr RS.ne; omega, by omega, fun kv H2 k0 k1 e2 row2 => ?_⟩
    have m12 := Mv.of_eq m1.tb m1.row e2 row2
    have m2 := m1.trans m12
    have hp2 := m12.lst p1r hp1
    obtain ⟨k, rfl⟩ : ∃ k : Nat, kv = (k : Int) := ⟨kv.toNat, by omega⟩
    have hk : k < rows.length := by omega
    have hrk : rows[k]? = some rows[k] := List.getElem?_eq_getElem hk
    have hmem : rows[k] ∈ rows := List.getElem_mem hk
    have hR := RS.rw _ hmem
    have h4 := RS.four _ hmem
    have h9 := RS.nine _ hmem
    have hrl := RS.row hmem
    refine ⟨_, rfl, _, rfl, Or.inl ⟨p1, _, (k : Int), wV (rowL rows[k]), rfl, rfl, SqL.of hp2, atI_nat (by rw [List.getElem?_map, List.getElem?_map, hrk]; rfl), ?_⟩⟩
    refine ⟨⟨_, rfl⟩, S (rowL rows[k]), _, rfl, rfl, by decide +kernel, by rw [S_len, sizeLine_eq]; omega, fun p2 np2 => ?_⟩
    rw [split_sp, row_cut hR]
    generalize hrow : rows[k] = rk at hrk hmem hR h4 h9 hrl ⊢
    have m23 := (Mv.refl m2.tb m2.row).then np2 (o := .lst ((rk.map S).map V.str))
    have m3 := m2.trans m23
    have p2r := m2.row.ne np2
    have np2H := m2.free np2
    have ew : (rk.map S).map V.str = rk.map wV := by
      rw [List.map_map]
      rfl
    have h12 : p1 ≠ p2 := ne_of_none hp2 np2
    have hq2 : (upd H2 p2 (.lst ((rk.map S).map V.str))) p2 = some (.lst (rk.map wV)) := by rw [upd_same, ew]
    have hp3 : (upd H2 p2 (.lst ((rk.map S).map V.str))) p1 = some (.lst ((rows.map rowL).map wV)) := by rw [upd_ne h12]; exact hp2
    generalize upd H2 p2 (.lst ((rk.map S).map V.str)) = H3 at m23 m3 hq2 hp3 ⊢
    have rkl := List.length_pos_iff.mpr hR.1
    refine ⟨_, rfl, _, rfl, .ref p2, rk.length, rfl, Or.inl ⟨_, SqL.of hq2, by simp⟩, c, r, (rk.length : Int), rfl, row.mv m3, by omega, by omega, fun jv H4 j0 j1 e4 row4 => ?_⟩
    have m34 := Mv.of_eq m3.tb m3.row e4 row4
    have m4 := m3.trans m34
    have hp4 := m34.lst p1r hp3
    have hq4 := m34.lst p2r hq2
    obtain ⟨j, rfl⟩ : ∃ j : Nat, jv = (j : Int) := ⟨jv.toNat, by omega⟩
    have hj : j < rk.length := by omega
    refine ⟨_, rfl, _, rfl, c, r, pw, ws.map wV, rfl, row.mv m4, m4.go.sl hpw, by rw [List.length_map]; exact hw1, by rw [List.length_map]; exact hw2, fun i v H5 hi e5 row5 => ?_⟩
    obtain ⟨z, hz, rfl⟩ : ∃ z, ws[i]? = some z ∧ v = wV z := by
      rw [List.getElem?_map] at hi
      cases e : ws[i]? with
      | none => rw [e] at hi; cases hi
      | some z => rw [e] at hi; exact ⟨z, rfl, (Option.some.inj hi).symm⟩
    have hzm := List.mem_of_getElem? hz
    have m45 := Mv.of_eq m4.tb m4.row e5 row5
    have m5 := m4.trans m45
    have hp5 := m45.lst p1r hp4
    have hq5 := m45.lst p2r hq4
    refine ⟨_, rfl, _, rfl, p2, _, (j : Int), j, rfl, rfl, hq5, ixn (by rw [List.length_map]; exact hj), ?_⟩
    have m6 := m5.put np2H p2r (o := .lst ((rk.map wV).set j (wV z)))
    have hq6 : (upd H5 p2 (.lst ((rk.map wV).set j (wV z)))) p2 = some (.lst ((rk.set j z).map wV)) := by rw [upd_same, List.map_set]
    have hp6 : (upd H5 p2 (.lst ((rk.map wV).set j (wV z)))) p1 = some (.lst ((rows.map rowL).map wV)) := by rw [upd_ne h12]; exact hp5
    generalize upd H5 p2 (.lst ((rk.map wV).set j (wV z))) = H6 at m6 hq6 hp6 ⊢
    have r9 : ∀ y ∈ rk.set j z, y.length ≤ 9 := fun y hy => by
      rcases List.mem_or_eq_of_mem_set hy with a | rfl
      · exact h9 y a
      · exact hw9 _ hzm
    have r4 : (rk.set j z).length ≤ 4 := by rw [List.length_set]; exact h4
    have hrl2 := rowL_len (m := 9) r9
    have hrl3 : (9 + 1) * (rk.set j z).length ≤ 10 * 4 := Nat.mul_le_mul_left _ r4
    refine ⟨⟨_, rfl⟩, _, rfl, _, rfl, _, rfl, p1, _, rfl, SqL.of hp6, fun p7 n7 => ?_⟩
    rw [cut_take (by rw [List.length_map, List.length_map]; omega)]
    have m7 := m6.then n7 (o := .lst (((rows.map rowL).map wV).take k))
    have h27 : p2 ≠ p7 := ne_of_none hq6 n7
    have h17 : p1 ≠ p7 := ne_of_none hp6 n7
    refine ⟨⟨_, rfl⟩, _, rfl, ?_⟩
    refine join_words (ws := rk.set j z) (SqL.of (by rw [upd_ne h27]; exact hq6)) (fun y hy => by have := r9 y hy; omega) (by omega) ?_
    refine ⟨(show (1 : Nat) ≤ sizeLine by decide), fun p8 n8 => ?_⟩
    have m8 := m7.then n8 (o := .lst [.str (S (rowL (rk.set j z)))])
    have h78 : p7 ≠ p8 := ne_of_none upd_same n8
    refine ⟨p7, p8, ((rows.map rowL).map wV).take k, [wV (rowL (rk.set j z))], rfl, rfl, by rw [upd_ne h78]; exact upd_same, upd_same, by rw [List.length_take, List.length_map, List.length_map, sizeLine_eq]; simp; omega, fun p9 n9 => ?_⟩
    have m9 := m8.then n9 (o := .lst (((rows.map rowL).map wV).take k ++ [wV (rowL (rk.set j z))]))
    have h18 : p1 ≠ p8 := fun y => by rw [← y, upd_ne h17, hp6] at n8; cases n8
    have h19 : p1 ≠ p9 := fun y => by rw [← y, upd_ne h18, upd_ne h17, hp6] at n9; cases n9
    refine ⟨_, rfl, _, rfl, _, _, rfl, rfl, _, rfl, p1, (rows.map rowL).map wV, rfl, SqL.of (by rw [upd_ne h19, upd_ne h18, upd_ne h17]; exact hp6), fun p10 n10 => ?_⟩
    have ek : ((k : Int) + 1) = ((k + 1 : Nat) : Int) := by omega
    show rCat (.ref p9) (.ref p10) (upd _ p10 (.lst (cutV _ (some ((k : Int) + 1)) none))) _
    rw [ek, cut_drop (by rw [List.length_map, List.length_map]; omega)]
    have m10 := m9.then n10 (o := .lst (((rows.map rowL).map wV).drop (k + 1)))
    have h910 : p9 ≠ p10 := ne_of_none upd_same n10
    refine ⟨p9, p10, ((rows.map rowL).map wV).take k ++ [wV (rowL (rk.set j z))], ((rows.map rowL).map wV).drop (k + 1), rfl, rfl, by rw [upd_ne h910]; exact upd_same, upd_same, ?_, fun p11 n11 => ?_⟩
    · rw [List.length_append, List.length_take, List.length_drop, List.length_map, List.length_map, sizeLine_eq]
      simp
      omega
    rw [set_parts (by rw [List.length_map, List.length_map]; exact hk), ← List.map_set, ← List.map_set]
    have m11 := m10.then n11 (o := .lst (((rows.set k (rk.set j z)).map rowL).map wV))
    refine join_rows (rows := rows.set k (rk.set j z)) (SqL.of upd_same) (fun y hy => ?_) (by rw [List.length_set]; omega) ?_
    · rcases List.mem_or_eq_of_mem_set hy with a | rfl
      · have := RS.row a
        omega
      · omega
    refine ⟨_, rfl, _, _, rfl, rfl, _, rfl, _, _, rfl, rfl, (show (3 : Nat) ≤ sizeLine by decide), fun p12 n12 => ?_⟩
    have m12' := m11.then n12 (o := .tup [.str (S (textL (rows.set k (rk.set j z)))), .int ((k : Int) + 1), .int ((j : Int) + 1)])
    exact q k rk j z p12 _ hrk hj hzm m12' (.inl (.inl (by rw [hid_ne (m11.row.ne n12)]; exact upd_same)))
end
end HK
set_option Elab.async false
set_option linter.all false
set_option maxRecDepth 100000
set_option maxHeartbeats 4000000
/-! try: several clauses 'except X as n', all of one name. -/
namespace HK
open PySem PySem.Spec PyProof.Rows L2 SX
abbrev Cls := Value × (Addr → Value → Option Addr → TS)
def endA (D : Ends) (i : Nat) : Ends where
  nx := fun σ H => D.nx (σ.set i none) H
  rt := D.rt
  bk := fun σ H => D.bk (σ.set i none) H
  ct := fun σ H => D.ct (σ.set i none) H
/-- what the clauses wish of the body's exception -/
def wAll (K : PySem.W.Frag) (i : Nat) (Z : WX) (D : Ends) : List Cls → WX
  | [] => Z
  | q :: r => fun cls d σ H => ∃ b, PySem.W.exmOne K cls q.1 = some b ∧ (b = true → ∀ a, H a = none → q.2 a cls d (endA D i) (σ.set i (some (.ref a))) H) ∧ (b = false → wAll K i Z D r cls d σ H)
inductive AllOk (X : Cx) (n : Str) : List ExceptHandler → List Cls → Prop
  | nil : AllOk X n [] []
  | cons {x : Str} {q : Cls} {b : Stmt} {bs : List Stmt} {p1 p2 : Pos} {hs : List ExceptHandler} {l : List Cls} (nm : Names X x q.1)
      (su : ∀ (a : Addr) (o : Obj) (cls : Value) (d : Option Addr) (pn : List (Addr × Obj)), Zc cls d o → (∃ vs, o.data = .fields vs) → PSs (X.suite a ((a, o) :: pn)) (b :: bs) (q.2 a cls d)) (r : AllOk X n hs l) :
      AllOk X n (.ExceptHandler (some (.Name x p1)) (some n) (b :: bs) p2 :: hs) (q :: l)
section
variable {X : Cx} {n : Str} {i : Nat} {body : List Stmt} {h1 : ExceptHandler} {hs : List ExceptHandler} {l : List Cls} {pos : Pos} {tb : WX → TS} {Z : WX}
theorem ps_try_all (k1 : X.stack = X.env :: X.outer) (k2 : X.env.frame = some X.env.locals) (nd : X.N.Nodup) (k3 : X.N[i]? = some n) (k4 : X.env.kindOf n = some .local) (tk : Takes X Z)
    (kb : ∀ (V : WX) (pn : List (Addr × Obj)) (xe : Value → Shared → Prop), Takes (X.tr pn xe) V → PassesOwn (model X.prog X.w) X.A X.env xe → PSs (X.tr pn xe) body (tb V)) (kh : AllOk X n (h1 :: hs) l) :
    PS X (.Try body (h1 :: hs) [] [] pos) (fun D σ H => tb (wAll X.K i Z D l) D σ H) := by
  refine ⟨fun pins s σ H D I h => ?_⟩
  have ok := I.ok
  have fr1 : X.A.frames = some (X.env :: X.outer) := ok.frames.trans (congrArg some k1)
  have fr2 : Loc X.env.scope n := .inl k4
  refine wpAny_Try_except ?_
  have run := (kb (wAll X.K i Z D l) (X.pn ++ pins) (fun e s₁ => wpAny (model X.prog X.w) X.A (noteFrame e X.env)
    (fun _ s₂ => wpAny (model X.prog X.w) X.A (setFlight e none) (fun _ s₃ => wpAny (model X.prog X.w) X.A (handleBy e X.env (h1 :: hs)) (SP X pins D) X.xe s₃) X.xe s₂) X.xe s₁) (fun u t xx => ?_) PassesOwn.looking).run [] s σ H D (I.toTry _) h
  · refine wpAny_mono run (fun fl t z => ?_) (fun _ _ z => z)
    cases fl with
    | next =>
      obtain ⟨σ1, H1, J1, q⟩ := z
      exact wpAny_execs_nil ⟨σ1, H1, J1.ofTry ok, q⟩
    | brk =>
      obtain ⟨σ1, H1, J1, q⟩ := z
      exact ⟨σ1, H1, J1.ofTry ok, q⟩
    | cont =>
      obtain ⟨σ1, H1, J1, q⟩ := z
      exact ⟨σ1, H1, J1.ofTry ok, q⟩
    | ret u =>
      obtain ⟨v, σ1, H1, J1, r, q⟩ := z
      exact ⟨v, σ1, H1, J1.ofTry ok, r, q⟩
  · obtain ⟨a, B, s1, pins1, σ1, H1, cls, d, rfl, J', nb, up, sky, na, os, ag, w⟩ := xx
    have J : Inv X pins σ1 H1 s1 := J'.ofTry ok
    rw [show (X.tr (X.pn ++ pins) _).stack = X.env :: X.outer from k1] at sky
    show wpAny (model X.prog X.w) X.A (noteFrame (.ref a) X.env) _ _ _
    refine Sky.land Zc.steady fr1 k2 sky fun h3 f3 u3 => ?_
    have J3 : Inv X pins σ1 H1 { t with heap := h3 } := J.landed nb f3.1 (up.trans u3) os ag
    obtain ⟨o3, vs3, e3, z3, d3⟩ := f3.there
    have nfr : a ∉ frs (X.env :: X.outer) := fun hm => by
      obtain ⟨_, o', e', hnf⟩ := f3.2.2.1.mem hm
      rw [e3] at e'
      cases e'
      exact hnf _ d3
    have nL : a ≠ X.env.locals := fun y => nfr (List.mem_filterMap.mpr ⟨X.env, List.mem_cons_self, k2.trans (congrArg some y.symm)⟩)
    have nF : a ∉ X.fs := fun hm => by
      obtain ⟨e, he, q⟩ := List.mem_filterMap.mp hm
      exact nfr (List.mem_filterMap.mpr ⟨e, List.mem_cons_of_mem _ he, q⟩)
    have S3 := J3.suite e3 d3 na nL nF
    have go : ∀ {hs' : List ExceptHandler} {l' : List Cls}, AllOk X n hs' l' → wAll X.K i Z D l' cls d σ1 H1 →
        wpAny (model X.prog X.w) X.A (handleBy (.ref a) X.env hs') (SP X pins D) X.xe { t with heap := h3 } := by
      intro hs' l' hk
      induction hk with
      | nil =>
        intro w
        refine wpAny_handleBy_nil ?_
        obtain ⟨_, _, _, oe, vs, T, oT, ts', he, hz, hd, hv, _⟩ := id f3
        unfold PySem.passOn
        refine wpAny_bind (wpAny_field he hd hv ?_)
        rw [if_neg (fun y : (Value.ref T == Value.none) = true => by simp at y)]
        have fin : wpAny (model X.prog X.w) X.A (setFlight (.ref a) X.env.frame) (fun _ s4 => wpAny (model X.prog X.w) X.A (throw (.ref a) : Sem Flow) (SP X pins D) X.xe s4) X.xe { t with heap := h3 } := by
          rw [k2]
          refine HandSPX.setFlight_upZ f3 fun h4 x4 u4 => wpAny_throw (tk _ _ ?_)
          refine ⟨a, B, s1, pins, σ1, H1, cls, d, rfl, J, nb, (up.trans u3).trans u4, .inr (.inr ?_), na, os, ag, w⟩
          rw [k1]
          exact x4
        first
          | exact wpAny_bind (wpAny_pure (wpAny_bind fin))
          | exact wpAny_bind fin
      | @cons x q b bs p1 p2 hs2 l2 nm su r ih =>
        intro w
        obtain ⟨bb, hb, yes, no⟩ := w
        refine wpAny_handleBy_cons (codeAny_handlers_test ?_) fun q => by cases q
        have L0 : PySem.W.Looks (model X.prog X.w) h3 (typeOf (.ref a)) cls := fun A Q E s k q => wpAny_typeOf_ref (k _ _ e3) (z3.1 ▸ q)
        have L1 := PySem.W.exm_one (M := model X.prog X.w) (J3.kIn) L0 hb
        have test : ∀ {Q E : Value → Shared → Prop}, Q q.1 { t with heap := h3 } → wpAny (model X.prog X.w) (X.A.mark (some (.ref a))) (eval (.Name x p1) X.env) Q E { t with heap := h3 } := fun {Q E} y => by
          obtain ⟨hg, hdb, hm | ⟨hm, hv, hn⟩⟩ := nm
          · exact ld_glob (X := X.suite a ((a, o3) :: (X.pn ++ pins))) S3 hg hm y hdb
          · exact ld_blt (X := X.suite a ((a, o3) :: (X.pn ++ pins))) S3 hg hm hv y hn hdb
        refine test (L1.here ?_)
        cases bb with
        | false =>
          show wpAny _ X.A (handleBy (.ref a) X.env hs2) _ _ _
          exact ih (no rfl)
        | true =>
          refine codeAny_handlers_suite_as ?_
          refine HandSPX.lands_againZ f3 fun h4 f4 u4 => ?_
          have J4 : Inv X pins σ1 H1 { t with heap := h4 } := J.landed nb f4.1 ((up.trans u3).trans u4) os ag
          obtain ⟨o4, vs4, e4, z4, d4⟩ := f4.there
          refine store_ok (X := X.suite a ((a, o4) :: (X.pn ++ pins))) (v := .ref a) (J4.suite e4 d4 na nL nF) nd k3 fr2 rfl (fun s5 S5 => ?_) (.inr k4)
          refine wpAny_mono ((su a o4 cls d (X.pn ++ pins) z4 ⟨_, d4⟩).run [] s5 _ H1 _ S5 (yes rfl a na)) (fun fl s6 z => ?_) fun _ _ y => False.elim y
          have fin : ∀ {σ6 : L2.St} {H6 : Hp} {Q : Shared → Prop}, Inv (X.suite a ((a, o4) :: (X.pn ++ pins))) [] σ6 H6 s6 → (∀ s7, Inv X pins (σ6.set i none) H6 s7 → Q s7) →
              wpAny (model X.prog X.w) X.A (do bindName X.env n .none; unbindBehindTheSuite X.env n p2) (fun _ s7 => Q s7) X.xe s6 := fun S6 hq => gone_ok (S6.unsuite ok) nd k3 k4 hq
          cases fl with
          | next =>
            obtain ⟨σ6, H6, S6, q6⟩ := z
            exact fin S6 fun _ J7 => ⟨_, _, J7, q6⟩
          | brk =>
            obtain ⟨σ6, H6, S6, q6⟩ := z
            exact fin S6 fun _ J7 => ⟨_, _, J7, q6⟩
          | cont =>
            obtain ⟨σ6, H6, S6, q6⟩ := z
            exact fin S6 fun _ J7 => ⟨_, _, J7, q6⟩
          | ret u =>
            obtain ⟨v6, σ6, H6, S6, r6, q6⟩ := z
            exact fin S6 fun _ J7 => ⟨_, _, _, J7, r6, q6⟩
    exact go kh w
end
end HK
set_option Elab.async false
set_option linter.all false
set_option maxRecDepth 100000
set_option maxHeartbeats 4000000
/-! A lambda that may have a default, made in a def. -/
namespace HK
open PySem PySem.Spec PyProof.Rows L2 SX LamX
/-- the function object of a lambda -/
abbrev lamO (q : Str) (pr : Arguments) (body : Expr) (scope : Scope) (cl : List (Str × Addr)) (dV doc pm : Value) (c1 : Addr) (ct : Value) : Obj :=
  PySem.W.kdv_obj "<lambda>" q pr (.expr body) scope cl dV doc pm c1 ct
section
variable {X : Cx} {pins : List (Addr × Obj)} {σ : L2.St} {H : Hp} {s : Shared}
theorem lam_tail {c P : Addr} {pr : Arguments} {body : Expr} {scope : Scope} {pos : Pos} {dV : Value} {E Q : Value → Shared → Prop} {q : Str} (I : Inv X pins σ H s) (tB : GxR.TabB X.base X.mg c P) (k1 : X.env.code = .ref c)
    (k2 : TabS H P q) (k3 : ∀ y ∈ scope.names, y.2 = .free → ∃ c, X.env.cells.lookup y.1 = some c)
    (h : ∀ (f c1 : Addr) (pm ct doc : Value) (H1 : Hp) (t : Shared), Inv X pins σ H1 t → (∀ b o, b ≠ P → H b = some o → H1 b = some o) → TabS H1 P q → (∀ b o, b ≠ P → s.heap.get? b = some o → t.heap.get? b = some o) →
      (∀ b o, b ≠ P → s.heap.get? b = some o → H b = none → H1 b = none) → t.heap.get? f = some (lamO q pr body scope (cloFrom X.env.cells scope.names []) dV doc pm c1 ct) → H1 f = none → f ∉ frs X.stack →
      H1 c1 = some (CodeO c1 q) → Q (.ref f) t) :
    wpAny (model X.prog X.w) X.A (makeTail "<lambda>" q pr (.expr body) scope X.env dV .none none pos pos.line) Q E s := by
  obtain ⟨ps, hP, tri, am⟩ := k2
  have bP : s.heap.BuiltinsAt X.mg P := tB.bm.keeps I.bk
  have hP1 : s.heap.get? P = some { cls := .none, data := .fields ps } := I.hok P _ hP
  have nfr : ∀ f, s.heap.objs.size ≤ f → f ∉ frs X.stack := fun f hf z => by
    rcases List.mem_cons.mp (I.stkSub _ z) with e | e
    · have := I.lt
      rw [← e] at this
      exact absurd this (Nat.not_lt.mpr hf)
    · exact I.nofs hf e
  cases hc : codeAmong pos ps.toList with
  | none =>
    refine PySem.W.kdv_makeTail (mg := X.mg) (c := c) (P := P) (ps := ps) (closure_ok k3) I.ok.glob (I.mod.glob.keeps I.bk) k1 (tB.code.keeps I.bk) hP1 tri hc tB.gP bP fun c1 ct doc h1 tk hx ge lt rec tb => ?_
    obtain ⟨c2, oc, vs, tt, e2, hoc, hd, hv⟩ := rec
    cases e2
    have sz : s.heap.objs.size ≤ h1.objs.size := Nat.le_trans ge (Nat.le_of_lt lt)
    have nC : H c1 = none := I.hok.fresh ge
    have I1 := inv_table (t' := tk) (more := #[rawInt pos.line, rawInt pos.col, .ref c1]) (h' := h1.push (lamO q pr body scope (cloFrom X.env.cells scope.names []) dV doc ((X.mg "__name__").getD .none) c1 ct)) I hP
      (fun b o nb e => Heap.get?_push_of_some _ (hx b o nb e)) (Heap.get?_push_of_some _ tb) ge ⟨oc, vs, tt, Heap.get?_push_of_some _ hoc, hd, hv⟩
    have keep : ∀ b o, b ≠ P → H b = some o → (upd (upd H P (.tbl (ps ++ #[rawInt pos.line, rawInt pos.col, .ref c1]))) c1 (CodeO c1 q)) b = some o := fun b o n e => by
      rw [upd_ne (ne_of_none e nC), upd_ne n]
      exact e
    have eL : (ps ++ #[rawInt pos.line, rawInt pos.col, .ref c1]).toList = ps.toList ++ [rawInt pos.line, rawInt pos.col, .ref c1] := by simp
    refine h h1.objs.size c1 _ ct doc _ _ I1 keep ?_ (fun b o n e => Heap.get?_push_of_some _ (hx b o n e)) (fun b o n e z => ?_) (Heap.get?_push_size _ rfl) ?_ (nfr _ sz) upd_same
    · refine ⟨_, by rw [upd_ne (ne_of_none hP nC), upd_same], by rw [eL]; exact PySem.TriplesOk_snoc _ _ _ _ tri, fun p1 cv hcv => ?_⟩
      rw [eL] at hcv
      rcases among_app _ tri hcv with z | z
      · obtain ⟨c0, e1, e2⟩ := am p1 cv z
        exact ⟨c0, e1, keep _ _ (fun y => by rw [y, hP] at e2; exact absurd (Option.some.inj e2).symm (codeO_ne ps)) e2⟩
      · exact ⟨c1, z, upd_same⟩
    · rw [upd_ne (fun y : b = c1 => absurd (Heap.lt_size e) (Nat.not_lt.mpr (y ▸ ge))), upd_ne n]
      exact z
    · rw [upd_ne (Nat.ne_of_gt lt), upd_ne (Nat.ne_of_gt (Nat.lt_of_lt_of_le (Heap.lt_size hP1) sz))]
      exact I.hok.fresh sz
  | some cv =>
    obtain ⟨c1, e, hco⟩ := am pos cv hc
    subst e
    refine PySem.W.kdv_makeTailHit (mg := X.mg) (c := c) (P := P) (ps := ps) (closure_ok k3) I.ok.glob (I.mod.glob.keeps I.bk) k1 (tB.code.keeps I.bk) hP1 tri hc bP fun ct doc h1 tk hx sz => ?_
    have I1 : Inv X pins σ H { s with heap := h1.push (lamO q pr body scope (cloFrom X.env.cells scope.names []) dV doc ((X.mg "__name__").getD .none) c1 ct), toks := tk } := I.kept fun b o e => Heap.get?_push_of_some _ (hx b o e)
    exact h h1.objs.size c1 _ ct doc H _ I1 (fun _ _ _ e => e) ⟨ps, hP, tri, am⟩ (fun b o _ e => Heap.get?_push_of_some _ (hx b o e)) (fun _ _ _ _ z => z) (Heap.get?_push_size _ rfl) (I.hok.fresh sz) (nfr _ sz) hco
/-- .. its defaults: none, or the one number 0 -/
def Dflt (pr : Arguments) : Prop := pr.kw_defaults = [] ∧ (pr.defaults = [] ∨ ∃ j p, pr.defaults = [.Constant (.int 0) j p])
/-- what the function object has of them at the heap h -/
def DvAt (h : Heap) (dV : Value) (pr : Arguments) : Prop := (dV = .none ∧ pr.defaults = []) ∨ ∃ (t : Addr) (u : Value), dV = .ref t ∧ pr.defaults ≠ [] ∧ h.get? t = some (PySem.W.kdv_tup [u])
theorem lam_made {c P : Addr} {pr : Arguments} {body : Expr} {scope : Scope} {pos : Pos} {E Q : Value → Shared → Prop} (I : Inv X pins σ H s) (tB : GxR.TabB X.base X.mg c P) (k1 : X.env.code = .ref c)
    (k2 : TabS H P (X.env.qual ++ "<lambda>")) (k3 : ∀ y ∈ scope.names, y.2 = .free → ∃ c, X.env.cells.lookup y.1 = some c) (k4 : Dflt pr)
    (h : ∀ (f c1 : Addr) (pm ct doc dV : Value) (H1 : Hp) (t : Shared), Inv X pins σ H1 t → (∀ b o, b ≠ P → H b = some o → H1 b = some o) → TabS H1 P (X.env.qual ++ "<lambda>") →
      t.heap.get? f = some (lamO (X.env.qual ++ "<lambda>") pr body scope (cloFrom X.env.cells scope.names []) dV doc pm c1 ct) → H1 f = none → f ∉ frs X.stack →
      ((dV = .none ∧ pr.defaults = []) ∨ ∃ (a : Addr) (u : Value), dV = .ref a ∧ pr.defaults ≠ [] ∧ t.heap.get? a = some (PySem.W.kdv_tup [u]) ∧ H1 a = none ∧ a ∉ frs X.stack) →
      H1 c1 = some (CodeO c1 (X.env.qual ++ "<lambda>")) → Q (.ref f) t) :
    wpAny (model X.prog X.w) X.A (eval (.Lambda pr body scope pos) X.env) Q E s := by
  obtain ⟨kw, df⟩ := k4
  rw [arm_eval_Lambda, defaultsOf_eq, kw]
  show wpAny _ _ (do let dv ← evalAll (evalEach pr.defaults X.env); let kdv ← holding dv (evalAllOpt []); makeFunction "<lambda>" (X.env.qual ++ "<lambda>") pr (.expr body) scope X.env dv kdv [] pos pos.line) Q E s
  rcases df with df | ⟨j, p, df⟩
  · rw [df]
    refine wpAny_bind (PySem.W.kdv_all0 (wpAny_bind (wpAny_holding (wpAny_pure ?_))))
    rw [makeFunction_eq]
    simp only [List.zip_nil_right, List.filterMap_nil, List.isEmpty_nil, if_true, pure_bind]
    exact lam_tail I tB k1 k2 k3 fun f c1 pm ct doc H1 t I1 ke tS _ _ hf nf nfr hc => h f c1 pm ct doc .none H1 t I1 ke tS hf nf nfr (.inl ⟨rfl, df⟩) hc
  · rw [df]
    refine wpAny_bind (PySem.W.kdv_all1 (wpAny_Constant_int ?_))
    have I1 : Inv X pins σ H { s with toks := s.toks + 1 } := I.tok _
    generalize ({ s with toks := s.toks + 1 } : Shared) = s1 at I1 ⊢
    generalize Value.int 0 s.toks = u
    refine PySem.W.kdv_all0 (wpAny_bind (wpAny_holding (wpAny_pure ?_)))
    rw [makeFunction_eq]
    simp only [List.zip_nil_right, List.filterMap_nil, List.isEmpty_nil, if_true, pure_bind, List.isEmpty_cons, Bool.false_eq_true, if_false]
    refine wpAny_bind (wpAny_newTextTuple ?_)
    have I2 : Inv X pins σ H { s1 with heap := s1.heap.push (PySem.W.kdv_tup [u]) } := I1.kept fun b o e => Heap.get?_push_of_some _ e
    obtain ⟨ps, hP, _⟩ := id k2
    have hP1 : s1.heap.get? P = some { cls := .none, data := .fields ps } := I1.hok P _ hP
    have nP : s1.heap.objs.size ≠ P := Nat.ne_of_gt (Heap.lt_size hP1)
    have nfr : s1.heap.objs.size ∉ frs X.stack := fun z => by
      rcases List.mem_cons.mp (I1.stkSub _ z) with e | e
      · have := I1.lt
        rw [← e] at this
        exact absurd this (Nat.lt_irrefl _)
      · exact I1.nofs (Nat.le_refl _) e
    refine lam_tail I2 tB k1 k2 k3 fun f c1 pm ct doc H1 t J1 ke tS k5 k6 hf nf nf2 hc => h f c1 pm ct doc (.ref s1.heap.objs.size) H1 t J1 ke tS hf nf nf2 (.inr ⟨_, u, rfl, by rw [df]; simp, k5 _ _ nP (Heap.get?_push_size _ rfl), k6 _ _ nP (Heap.get?_push_size _ rfl) (I1.hok.fresh (Nat.le_refl _)), nfr⟩) hc
end
end HK
set_option Elab.async false
set_option linter.all false
set_option maxRecDepth 100000
set_option maxHeartbeats 4000000
/-! A lambda that may have a default, called by the def that got it. -/
namespace HK
open PySem PySem.Spec PyProof.Rows L2 SX LamX
/-- a lambda's own names: at most parameters that the def around does not have -/
structure LamP (N : List Str) (sc scope : Scope) : Prop where
  kind : scope.kind = .function
  co : scope.isCoroutine = false
  gen : scope.isGenerator = false
  cel : ∀ y ∈ scope.names, y.2 ≠ .cell
  loc : ∀ y ∈ N, scope.names.lookup y ≠ some .local
  fre : ∀ y ∈ scope.names, y.2 = .free → sc.names.lookup y.1 = some .cell ∨ sc.names.lookup y.1 = some .free
def lamPB (N : List Str) (sc scope : Scope) : Bool :=
  decide (scope.kind = .function) && (!scope.isCoroutine && (!scope.isGenerator && ((scope.names.all fun y => !decide (y.2 = .cell)) && ((N.all fun y => !decide (scope.names.lookup y = some .local)) &&
    (scope.names.all fun y => !decide (y.2 = .free) || (decide (sc.names.lookup y.1 = some .cell) || decide (sc.names.lookup y.1 = some .free)))))))
theorem lamP_by {N : List Str} {sc scope : Scope} (h : lamPB N sc scope = true) : LamP N sc scope := by
  unfold lamPB at h
  simp only [Bool.and_eq_true, Bool.or_eq_true, Bool.not_eq_true', decide_eq_true_eq, decide_eq_false_iff_not, List.all_eq_true] at h
  obtain ⟨h1, h2, h3, h4, h5, h6⟩ := h
  refine ⟨h1, h2, h3, h4, h5, fun y hy e => ?_⟩
  rcases h6 y hy with z | z | z
  · exact absurd e z
  · exact .inl z
  · exact .inr z
section
variable {X : Cx} {pins : List (Addr × Obj)} {σ : L2.St} {H HZ : Hp} {s s1 : Shared}
theorem LamP.has {scope : Scope} (L : LamP X.N X.env.scope scope) (ok : X.Ok) : ∀ y ∈ scope.names, y.2 = .free → ∃ c, X.env.cells.lookup y.1 = some c := fun y hy e =>
  (L.fre y hy e).elim (fun k => ok.has _ (.inl k)) fun k => ok.has _ (.inr k)
theorem lam_in {A : Around} {outer : List Env} {E : XK} {scope : Scope} {f c1 : Addr} {h1 : Heap} {tk : Nat} {bs : List (Str × Value)} (I : Inv X pins σ H s) (L : LamP X.N X.env.scope scope)
    (e0 : Env0 X.prog X.w X.K X.mg X.base A outer s1 HZ) (hd : A.handled = none) (un : Un (frs X.stack) [] H HZ s.heap s1.heap)
    (ns : h1.Ns s1.heap.objs.size fun y => bs.reverse.lookup y) (kp : ∀ b o, s1.heap.get? b = some o → h1.get? b = some o) :
    Inv (lamCx X A outer s1 HZ E scope f c1) [] σ HZ { s1 with heap := h1, toks := tk } := by
  have hfr := L.has I.ok
  have cm : ∀ {y c}, (cloFrom X.env.cells scope.names []).lookup y = some c → X.env.cells.lookup y = some c := fun {y c} e => by
    rcases cloFrom_mem (PySem.mem_of_lookup e) with hm | ⟨a1, a2⟩
    · cases hm
    · obtain ⟨cc, hc⟩ := hfr _ a1 rfl
      have hc : X.env.cells.lookup y = some cc := hc
      have : c = cc := by
        rw [a2, hc] <;> rfl
      rw [this]
      exact hc
  have look : ∀ {y}, scope.names.lookup y = some .free → ∃ c, (cloFrom X.env.cells scope.names []).lookup y = some c := fun {y} hl =>
    mem_lookup (cloFrom_has (cells := X.env.cells) (acc := []) (show (y, NameKind.free) ∈ scope.names from PySem.mem_of_lookup hl))
  have cellK : ∀ {c : Addr} {v : Option Value}, H c = none → s.heap.IsCell c v → h1.IsCell c v := fun {c v} n ⟨o, ho, hd⟩ => by
    obtain ⟨sl, q⟩ := un.any ho n (fun z => nomatch z)
    exact ⟨_, kp _ _ q, hd⟩
  have noA : ∀ b : Addr, b ∉ (lamCx X A outer s1 HZ E scope f c1).ex := fun b z => nomatch (show b ∈ ([] : List Addr) from z)
  refine ⟨⟨e0.mod, L.kind, rfl, rfl, Nat.le_refl _, fun y z c e1 e2 => I.ok.inj y z c (cm e1) (cm e2), fun y hy => ?_, fun y c z _ => ?_, fun _ => hd, Around.frames_deeper e0.frames, .inr ⟨rfl, rfl⟩,
      fun b z => absurd z (noA b), e0.bs, e0.bsz, fun b _ _ => noA b, fun b z => absurd z (noA b), e0.funs, e0.frf⟩, rfl, e0.bare, Un.kept kp, ⟨_, ns, fun i y v e1 e2 e3 => ?_⟩,
    fun y c e => ?_, e0.hok.fresh (Nat.le_refl _), fun y c e => ?_, fun q hq => absurd (show q ∈ ([] : List (Addr × Obj)) ++ [] from hq) (fun z => nomatch z), e0.hok.kept kp, I.len⟩
  · rcases (show scope.names.lookup y = some .cell ∨ scope.names.lookup y = some .free from hy) with hy | hy
    · exact absurd rfl (L.cel _ (PySem.mem_of_lookup hy))
    · exact look hy
  · exact absurd (show false = true from z) (by decide)
  · rcases (show Vis scope y from e3) with k | k | k
    · exact absurd k (L.loc y (List.mem_of_getElem? e1))
    · exact absurd rfl (L.cel _ (PySem.mem_of_lookup k))
    · obtain ⟨m, hn, hl⟩ := I.loc
      have vis : Vis X.env.scope y := (L.fre _ (PySem.mem_of_lookup k) rfl).elim (fun k => .inr (.inl k)) (fun k => .inr (.inr k))
      obtain ⟨w', r, q⟩ := hl i y v e1 e2 vis
      obtain ⟨c2, h2⟩ := look k
      refine ⟨w', r, .inr ⟨.inr k, c2, h2, ?_⟩⟩
      have cc := cm h2
      rcases q with ⟨k', _⟩ | ⟨_, c3, e', z⟩
      · have k' : X.env.scope.names.lookup y = some .local := k'
        rcases L.fre _ (PySem.mem_of_lookup k) rfl with k2 | k2 <;> rw [show X.env.scope.names.lookup y = _ from k2] at k' <;> cases k'
      · rw [cc] at e'
        cases e'
        exact cellK (I.freeC y _ cc) z
  · obtain ⟨w', z⟩ := I.cell y c (cm e)
    exact ⟨w', cellK (I.freeC y c (cm e)) z⟩
  · obtain ⟨v, o, ho, hd⟩ := I.cell y c (cm e)
    exact un.free c o ho (I.freeC y c (cm e)) (fun z => nomatch z)
/-- x(), in the def that got the lambda: Z is that def's context, entered at s -/
theorem pe_actD {CY : CXT} {Eg : XK} {Ng : List Str} {qg q : Str} {sg : Scope} {g f c1 : Addr} {cdg dV doc pm ct : Value} {pr : Arguments} {body : Expr} {scope : Scope} {k i : Nat} {a : Str} {pn : List (Addr × Obj)} {xe : Value → Shared → Prop} {W : WX} {E : XK} {tb : TE} {p1 p2 : Pos}
    (I : Inv X pins σ H s) (L : LamP X.N X.env.scope scope) (k1 : s.heap.get? f = some (lamO q pr body scope (cloFrom X.env.cells scope.names []) dV doc pm c1 ct)) (k2 : H f = none) (k3 : f ∉ frs X.stack) (kq : q = X.env.qual ++ "<lambda>")
    (k4 : (dV = .none ∧ pr.defaults = []) ∨ ∃ (t : Addr) (u : Value), dV = .ref t ∧ pr.defaults ≠ [] ∧ s.heap.get? t = some (PySem.W.kdv_tup [u]) ∧ H t = none ∧ t ∉ frs X.stack)
    (kb : ∀ s1 : Shared, DvAt s1.heap dV pr → ∃ bs, BindsTo s1 (PySem.W.kdv_fn "<lambda>" q pr (.expr body) scope (cloFrom X.env.cells scope.names []) dV doc pm (.ref c1) ct) ⟨[], []⟩ bs ∧ ∀ y ∈ bs, scope.names.lookup y.1 = some .local)
    (tk : Takes ((cxOf CY X.prog X.w X.K X.mg X.base Ng qg sg g cdg X.A X.stack s H Eg).tr pn xe) W) (hW : ∀ cls d σ' H', E cls d H' → W cls d σ' H') (hr : Room (k + 1) (X.A.deeper (envOfC qg sg s.heap.objs.size g cdg)))
    (hbody : ∀ (A : Around) (outer : List Env) (s : Shared) (H : Hp), Room k (A.deeper (lamEnv X scope s.heap.objs.size f c1)) → PE (lamCx X A outer s H E scope f c1) body tb)
    (hN : Ng[i]? = some a) (hv : Vis sg a) (hd : (a == ("__debug__" : Str)) = false := by decide) (hcd : (a == ("__classdict__" : Str)) = false := by decide) :
    PE ((cxOf CY X.prog X.w X.K X.mg X.base Ng qg sg g cdg X.A X.stack s H Eg).tr pn xe) (.Call (.Name a p1) [] [] p2)
      (fun σZ HZ Q => σZ[i]? = some (some (.ref f)) ∧ HZ c1 = some (CodeO c1 q) ∧ tb σ HZ Q) := by
  subst kq
  refine ⟨fun pinsZ sZ σZ HZ Q IZ h => ?_⟩
  obtain ⟨hs, hc, ht⟩ := h
  refine wpAny_Call_Name_kw (thn ((pe_var (pos := p1) (i := i) hN hv hd hcd).run pinsZ sZ σZ HZ (fun v H1 => v = .ref f ∧ H1 = HZ) IZ ⟨.ref f, hs, rfl, rfl⟩) fun u s1 ⟨v, H1, I1, r1, q1⟩ => ?_)
  obtain ⟨ev, eH⟩ := q1
  subst ev
  rw [eH] at I1
  obtain rfl : u = Value.ref f := r1
  have of1 := I1.base.keep f _ k1 k2 k3 (fun z => nomatch (show f ∈ ([] : List Addr) from z))
  refine PySem.W.callWith_F0 ⟨_, _, _, _, of1⟩ ?_
  have un : Un (frs X.stack) [] H HZ s.heap s1.heap := I1.base
  have dv1 : DvAt s1.heap dV pr := by
    rcases k4 with z | ⟨t, u, z1, z2, z3, z4, z5⟩
    · exact .inl z
    · exact .inr ⟨t, u, z1, z2, I1.base.keep t _ z3 z4 z5 (fun z => nomatch (show t ∈ ([] : List Addr) from z))⟩
  obtain ⟨bs, hb, hl⟩ := kb s1 dv1
  obtain ⟨⟨oc, vs, t, hoc, hdc, hvc⟩, _, _⟩ := I1.hok c1 _ hc
  have rc : codeAny (model X.prog X.w) (X.A.deeper (envOfC qg sg s.heap.objs.size g cdg)) (.call (.ref f) ⟨[], []⟩) (CR (L2.CX X.prog X.w) (envOfC qg sg s.heap.objs.size g cdg :: X.stack) X.prog X.w HZ s1 Q E) s1 := by
    refine PySem.W.kla_callFunE hr.depth of1 rfl L.co L.gen rfl ⟨c1, oc, vs, t, rfl, hoc, hdc, hvc⟩ ?_
    refine hb _ _ _ _ (wpAny_newFunctionEnv (fun y hy => L.cel y hy) (fun y hy => hl y hy) (fun h1 ns sb => ⟨I1.nolimit.fresh _ sb, ?_⟩) L.kind)
    show codeAny _ _ (.expr body (lamEnv X scope s1.heap.objs.size f c1)) _ _
    have kp : ∀ b o, s1.heap.get? b = some o → h1.get? b = some o := fun b o e => sb.extBut b o (Nat.ne_of_lt (Heap.lt_size e)) (Heap.get?_push_of_some _ e)
    have J := lam_in (A := X.A.deeper (envOfC qg sg s.heap.objs.size g cdg)) (outer := envOfC qg sg s.heap.objs.size g cdg :: X.stack) (E := E) (f := f) (c1 := c1) (tk := s1.toks + bs.length) I L I1.env0 hr.hd un ns kp
    refine PySem.W.kla_codeExpr (wpAny_mono ((hbody _ _ s1 HZ (hr.deeper _)).run [] _ _ HZ Q J ht) (fun v t hq => ?_) fun e t hq => hq)
    obtain ⟨w', H', J', rv, q⟩ := hq
    exact ⟨w', H', J'.os, J'.bare, J'.base, J'.hok, rv, q⟩
  have hx : Passes (L2.CX X.prog X.w) ((cxOf CY X.prog X.w X.K X.mg X.base Ng qg sg g cdg X.A X.stack s H Eg).tr pn xe) E := passes_call tk hW
  refine wpAny_call (codeAny_mono rc fun r t hq => ?_)
  cases r with
  | error e => exact hx pinsZ σZ HZ s1 e t I1 hq
  | ok fl =>
    cases fl with
    | ret u => exact I1.after hq
    | next => exact False.elim hq
    | brk => exact False.elim hq
    | cont => exact False.elim hq
/-- what the lambda's call asks of the table: it may have grown -/
def tLamD (P : Addr) (q : Str) (TT : (XK → Hp → VK → Prop) → Hp → VK → Prop) (t : XK → TE) : TE := fun σ H Q => TabS H P q ∧ ∀ H1, (∀ b o, b ≠ P → H b = some o → H1 b = some o) → TabS H1 P q → TT (fun E H' Q' => t E σ H' Q') H1 Q
/-- x(lambda: body) -/
theorem pe_lamD {TT : (XK → Hp → VK → Prop) → Hp → VK → Prop} {x a q : Str} {g c P : Addr} {k : Nat} {pg : Arguments} {bg : List Stmt} {sg : Scope} {dW kV doc pm cdv ct oc : Value} {an od : Option Addr} {osl : Array (Option Value)} {Ng : List Str}
    {pr : Arguments} {body : Expr} {scope : Scope} {t : XK → TE} {p lpos pos : Pos} (hg : Gl X x) (hm : X.mg x = some (.ref g)) (hk : PySem.W.keepIn X.K (.ref g) = true)
    (lk : X.K.lookup g = some ⟨oc, od, .func (PySem.W.fnOf x x pg bg sg dW kV doc pm an cdv ct), osl⟩) (hcg : PySem.W.codeIn X.K cdv x = true) (hb : L2.Binds X.K (PySem.W.fnOf x x pg bg sg dW kV doc pm an cdv ct) [a] []) (Sg : FnScope Ng [a] sg) (hNg : Ng[0]? = some a) (hva : Vis sg a)
    (hG : GivesTo X Ng x sg g cdv bg a q TT) (tB : GxR.TabB X.base X.mg c P) (hcode : X.env.code = .ref c) (kq : q = X.env.qual ++ "<lambda>") (hr : Room (k + 2) X.A) (L : LamP X.N X.env.scope scope) (kd : Dflt pr)
    (kb : ∀ (s1 : Shared) (dV doc pm : Value) (cl : List (Str × Addr)) (c1 : Addr) (ct : Value), DvAt s1.heap dV pr → ∃ bs, BindsTo s1 (PySem.W.kdv_fn "<lambda>" q pr (.expr body) scope cl dV doc pm (.ref c1) ct) ⟨[], []⟩ bs ∧ ∀ y ∈ bs, scope.names.lookup y.1 = some .local)
    (hbody : ∀ (A : Around) (outer : List Env) (s : Shared) (H : Hp) (E : XK) (f c1 : Addr), Room k (A.deeper (lamEnv X scope s.heap.objs.size f c1)) → PE (lamCx X A outer s H E scope f c1) body (t E))
    (hdb : (x == ("__debug__" : Str)) = false := by decide) (hd : (a == ("__debug__" : Str)) = false := by decide) (hcd : (a == ("__classdict__" : Str)) = false := by decide) :
    PE X (.Call (.Name x p) [.Lambda pr body scope lpos] [] pos) (tLamD P q TT t) := by
  refine ⟨fun pins s σ H Q I h => ?_⟩
  obtain ⟨hT, h⟩ := h
  refine wpAny_Call_Name_kw (ld_glob I hg hm ?_ hdb)
  refine PySem.W.callWith_K (h₀ := X.base) I.ok.mod.kin hk ?_ (by rfl) (by rfl)
  show wpAny _ _ (spliced ((false, eval (.Lambda pr body scope lpos) X.env) :: backTo pos (starEach [] X.env))) _ _ s
  have hT0 : TabS H P (X.env.qual ++ "<lambda>") := kq ▸ hT
  refine Calls.spliced_cons (lam_made I tB hcode hT0 (L.has I.ok) kd fun f c1 pm' ct' doc' dV H1 s' I1 ke tS hf nf nfr dv hco => ?_)
  refine Calls.spliced_nil ⟨I1.kIn, ?_⟩
  rw [← kq] at hf hco tS
  have rc : codeAny (model X.prog X.w) X.A (.call (.ref g) ⟨[.ref f], []⟩) (CR C8.CX0 X.stack X.prog X.w H1 s' Q C8.E0) s' := by
    refine run_ofS (N := Ng) (ps := [a]) (us := [.ref f]) (vs := [.ref f]) lk hcg Sg hr I1.env0 (hb s' [.ref f] I1.kIn rfl) (.cons rfl .nil) rfl fun hr' => ?_
    obtain ⟨t', ht', hq'⟩ := hG f c1 s' H1 Q (fun E H' Q' => t E σ H' Q') (fun W pn xe E p1 p2 tk hW => pe_actD (i := 0) I1 L hf nf nfr kq dv (fun s1 z => kb s1 dV doc' pm' _ c1 ct' z) tk hW hr' (fun A outer s H hr2 => hbody A outer s H E f c1 hr2) hNg hva hd hcd) hco (h H1 ke tS)
    exact ⟨t', ht'.nox, hq'⟩
  refine wpAny_call (codeAny_mono rc fun r s2 hq => ?_)
  cases r with
  | error e => exact (show False from hq).elim
  | ok fl =>
    cases fl with
    | ret u => exact I1.after hq
    | next => exact False.elim hq
    | brk => exact False.elim hq
    | cont => exact False.elim hq
end
end HK
set_option Elab.async false
set_option linter.all false
set_option maxRecDepth 100000
set_option maxHeartbeats 4000000
/-! The law's def that calls what it got and tells of the exception. -/
namespace HK
open PySem PySem.Spec PyProof.Rows L2 SX LamX
theorem takes_len {X : Cx} {W : WX} (t : Takes X W) : Takes X (fun c d σ H => σ.length = X.N.length → W c d σ H) := fun e s ⟨a, B, s1, pins, σ, H, cls, d, e1, J, nb, up, sky, na, os, ag, w⟩ =>
  t e s ⟨a, B, s1, pins, σ, H, cls, d, e1, J, nb, up, sky, na, os, ag, w J.len⟩
/-- told: where it stands as (line, place), 'string', or None -/
def TSaid (d : Ad) : (XK → Hp → VK → Prop) → Hp → VK → Prop := fun tl H Q =>
  tl (fun cls dd H' => (cls = .ref d.CB ∧ ∃ (dx : Addr) (l p : Int), dd = some dx ∧ H' dx = some (.xd (badFs l p)) ∧ ∀ t, H' t = none → Q (.ref t) (upd H' t (.tup [.int l, .int p]))) ∨ (cls = .ref d.CS ∧ Q (.str "string") H')) H fun _ H' => Q .non H'
section
variable {X : Cx} {d : Ad}
theorem said_gives {g : Addr} {cdg : Value} {q : Str} (T : Tx X.K X.mg d) :
    GivesTo X n_law_said_session "_law_said_session" (defScope s_law_said_session) g cdg (defBody s_law_said_session) "_law_work" q (TSaid d) := by
  intro f c1 s H Q tl act hc h
  refine ⟨_, pss_cons (ps_try_all (X := (cxOf C8.CX0 X.prog X.w X.K X.mg X.base n_law_said_session "_law_said_session" (defScope s_law_said_session) g cdg X.A X.stack s H C8.E0).nox) (n := "e") (i := 1) (Z := fun _ _ _ _ => False)
      (tb := fun V D σ H => ∃ Ech : XK, (∀ cls d σ' H', Ech cls d H' → σ'.length = 2 → V cls d σ' H') ∧ σ[0]? = some (some (.ref f)) ∧ H c1 = some (CodeO c1 q) ∧ tl Ech H (fun _ H' => D.nx σ H'))
      (l := [(.ref d.CB, fun a cls dd => tRet _), (.ref d.CS, fun a cls dd => tRet _)])
      rfl rfl sc_law_said_session.nd rfl rfl L2.takes0 (fun V pn xe tk _ => ?_)
      (.cons ⟨rfl, by decide, .inl T.gB⟩ (fun a o cls dd pn z1 z2 => pss_one (ps_ret (pe_tup (pa_cons (pe_xf T.xB T.nL z1 z2 (pv 1)) (pa_cons (pe_xf T.xB T.nP z1 z2 (pv 1)) pa_nil)))))
      (.cons ⟨rfl, by decide, .inl T.gS⟩ (fun a o cls dd pn z1 z2 => pss_one (ps_ret pe_str)) .nil))) (pss_one (ps_ret pe_non)), ?_⟩
  · refine ⟨fun pins s' σ H' D I h' => ?_⟩
    obtain ⟨Ech, hW, h1, h2, h3⟩ := h'
    have hq := fun p1 p2 p3 => pss_one (ps_expr (pos := p3) (act (fun c d σ H => σ.length = 2 → V c d σ H) pn xe Ech p1 p2 (takes_len tk) fun cls d σ' H' z => hW cls d σ' H' z))
    exact (hq _ _ _).run pins s' σ H' D I ⟨h1, h2, h3⟩
  · refine ⟨_, fun cls dd σ' H' z hl => ?_, rfl, hc, h⟩
    have s1 : ∀ a : Addr, (σ'.set 1 (some (V.ref a)))[1]? = some (some (V.ref a)) := fun a => List.getElem?_set_self (by omega)
    rcases z with ⟨rfl, dx, l, p, rfl, hx, z⟩ | ⟨rfl, z⟩
    · refine ⟨true, T.mBB, fun _ a ha => ?_, fun z => by cases z⟩
      refine ⟨_, s1 a, rfl, rfl, dx, _, .int l, rfl, hx, rfl, ?_⟩
      refine ⟨_, s1 a, rfl, rfl, dx, _, .int p, rfl, hx, rfl, ?_⟩
      exact ⟨(show (2 : Nat) ≤ sizeLine by decide), fun t nt => z t nt⟩
    · exact ⟨false, T.mSB, fun z => (by cases z), fun _ => ⟨true, T.mSS, fun _ a ha => z, fun z => by cases z⟩⟩
end
end HK
set_option Elab.async false
set_option linter.all false
set_option maxRecDepth 100000
set_option maxHeartbeats 4000000
/-! The law's call of it with a lambda. -/
namespace HK
open PySem PySem.Spec PyProof.Rows L2 SX LamX
theorem dv_none {h : Heap} {dV : Value} {pr : Arguments} (e : pr.defaults = []) (z : DvAt h dV pr) : dV = .none := by
  rcases z with ⟨z, _⟩ | ⟨_, _, _, n, _⟩
  · exact z
  · exact absurd e n
theorem dv_one {h : Heap} {dV : Value} {pr : Arguments} (e : pr.defaults ≠ []) (z : DvAt h dV pr) : ∃ (t : Addr) (u : Value), dV = .ref t ∧ h.get? t = some (PySem.W.kdv_tup [u]) := by
  rcases z with ⟨_, z⟩ | ⟨t, u, z, _, y⟩
  · exact absurd z e
  · exact ⟨t, u, z, y⟩
/-- how the lambda's arguments bind -/
def Bd (q : Str) (pr : Arguments) (body : Expr) (scope : Scope) : Prop := ∀ (s1 : Shared) (dV doc pm : Value) (cl : List (Str × Addr)) (c1 : Addr) (ct : Value), DvAt s1.heap dV pr →
  ∃ bs, BindsTo s1 (PySem.W.kdv_fn "<lambda>" q pr (.expr body) scope cl dV doc pm (.ref c1) ct) ⟨[], []⟩ bs ∧ ∀ y ∈ bs, scope.names.lookup y.1 = some .local
theorem bd_none {q : Str} {pr : Arguments} {body : Expr} {scope : Scope} (e : pr.defaults = []) (h : ∀ (doc pm : Value) (cl : List (Str × Addr)) (c1 : Addr) (ct : Value), bindArgs (PySem.W.kdv_fn "<lambda>" q pr (.expr body) scope cl .none doc pm (.ref c1) ct) ⟨[], []⟩ = pure []) : Bd q pr body scope :=
  fun s1 dV doc pm cl c1 ct z => ⟨[], by rw [dv_none e z]; exact BindsTo.of_eq (h doc pm cl c1 ct), fun y hy => nomatch hy⟩
theorem bd_one {q a : Str} {pr : Arguments} {body : Expr} {scope : Scope} (e : pr.defaults ≠ []) (h3 : scope.names.lookup a = some .local)
    (h1 : ∀ (t : Addr) (u doc pm : Value) (cl : List (Str × Addr)) (c1 : Addr) (ct : Value), ∃ k : Option (Array Value) → Sem (List (Str × Value)), bindArgs (PySem.W.kdv_fn "<lambda>" q pr (.expr body) scope cl (.ref t) doc pm (.ref c1) ct) ⟨[], []⟩ =
      seqItems? (PySem.W.kdv_fn "<lambda>" q pr (.expr body) scope cl (.ref t) doc pm (.ref c1) ct).defaults >>= k ∧ k (some #[u]) = pure [(a, u)]) : Bd q pr body scope :=
  fun s1 dV doc pm cl c1 ct z => by
    obtain ⟨t, u, rfl, ht⟩ := dv_one e z
    obtain ⟨k, k1, k2⟩ := h1 t u doc pm cl c1 ct
    exact ⟨[(a, u)], BindsTo.of_defaults rfl ht rfl k1 k2, fun y hy => by rw [List.mem_singleton.mp hy]; exact h3⟩
section
variable {X : Cx} {d : Ad}
theorem pe_said {k : Nat} {N : List Str} {sc : Scope} {q : Str} {pr : Arguments} {body : Expr} {scope : Scope} {t : XK → TE} {p lpos pos : Pos} (T : Tx X.K X.mg d) (B : Tbs X.base X.mg d) (hr : Room (k + 2) X.A) (hg : Gl X "_law_said_session")
    (hcode : X.env.code = .ref d.cL) (kq : q = X.env.qual ++ "<lambda>") (hN : X.N = N) (hsc : X.env.scope = sc) (L : LamP N sc scope) (kd : Dflt pr) (kb : Bd q pr body scope)
    (hbody : ∀ (A : Around) (outer : List Env) (s : Shared) (H : Hp) (E : XK) (f c1 : Addr), Room k (A.deeper (lamEnv X scope s.heap.objs.size f c1)) → PE (lamCx X A outer s H E scope f c1) body (t E)) :
    PE X (.Call (.Name "_law_said_session" p) [.Lambda pr body scope lpos] [] pos) (tLamD d.pL q (TSaid d) t) := by
  subst hN
  subst hsc
  obtain ⟨g, fd, F, hm, hb⟩ := T.d_law_said_session.ex
  obtain ⟨⟨oc, od, kV, doc, pm, an, cdv, ct, osl, rfl, lk, hcd⟩, kp⟩ := F
  exact pe_lamD hg hm kp lk hcd hb sc_law_said_session rfl (by first | exact .inl rfl | exact .inr (.inl rfl)) (said_gives T) B.tL hcode kq hr L kd kb hbody
end
end HK
set_option Elab.async false
set_option linter.all false
set_option maxRecDepth 100000
/-! The written cases. Printed by mkcases.py. -/
namespace HK
open PySem
def yardCases : List (List Nat × Int × Int) :=
  [([], 2, 1),
   ([112, 108, 97, 99, 101, 115], 1, 2),
   ([112, 108, 97, 99, 101, 115, 32, 56], 1, 2),
   ([112, 108, 97, 99, 101, 115, 32, 50, 32, 50], 1, 3),
   ([116, 105, 101, 32, 48, 32, 49], 1, 1),
   ([112, 108, 97, 99, 101, 115, 32, 51, 10, 116, 105, 101, 32, 48, 32, 49, 10], 4, 1),
   ([112, 108, 97, 99, 101, 115, 32, 51, 10, 116, 105, 101, 32, 48, 32, 49, 10, 103, 97, 116, 101, 32, 48], 3, 1),
   ([112, 108, 97, 99, 101, 115, 32, 51, 10, 116, 105, 101, 32, 48, 32, 49, 10, 116, 105, 101, 32, 48, 32, 49], 3, 3),
   ([112, 108, 97, 99, 101, 115, 32, 51, 10, 116, 105, 101, 32, 48, 32, 49, 10, 116, 105, 101, 32, 49, 32, 50], 4, 1),
   ([112, 108, 97, 99, 101, 115, 32, 51, 10, 116, 105, 101, 32, 48, 32, 49, 10, 116, 105, 101, 32, 50, 32, 51], 3, 2),
   ([112, 108, 97, 99, 101, 115, 32, 51, 10, 116, 105, 101, 32, 48, 32, 49, 10, 116, 105, 101, 32, 48, 32, 50, 32, 49], 3, 4),
   ([112, 108, 97, 99, 101, 115, 32, 51, 10, 116, 105, 101, 32, 48, 32, 49, 10, 116, 105, 101, 32, 48, 32, 51], 3, 3),
   ([112, 108, 97, 99, 101, 115, 32, 51, 10, 116, 105, 101, 32, 48, 32, 49, 10, 116, 105, 101, 32, 49, 32, 50, 10, 103, 97, 116, 101, 32, 51], 4, 2),
   ([112, 108, 97, 99, 101, 115, 32, 51, 10, 116, 105, 101, 32, 48, 32, 49, 10, 116, 105, 101, 32, 49, 32, 50, 10, 103, 97, 116, 101, 32, 48, 10, 103, 97, 116, 101, 32, 49], 5, 1),
   ([112, 108, 97, 99, 101, 115, 32, 51, 10, 116, 105, 101, 32, 49, 32, 50, 10, 116, 105, 101, 32, 48, 32, 49], 3, 2),
   ([112, 108, 97, 99, 101, 115, 32, 50, 10, 103, 97, 116, 101, 32, 48], 2, 1),
   ([112, 108, 97, 99, 101, 115, 32, 51, 10, 116, 105, 101, 32, 49, 32, 50, 10, 116, 105, 101, 32, 48, 32, 120], 3, 2)]
def standCases : List (List Nat × Int × Int) :=
  [([], 1, 1),
   ([48, 32, 49, 32, 50], 1, 4),
   ([48, 32, 49, 32, 50, 32, 51], 1, 4),
   ([48, 32, 49, 32, 49, 32, 45], 1, 3),
   ([45, 32, 45, 32, 45, 32, 45], 1, 1),
   ([50, 32, 45, 32, 45, 32, 49], 1, 1),
   ([48, 32, 45, 32, 50, 32, 45], 1, 3),
   ([48, 32, 45, 32, 45, 32, 45, 32, 45], 1, 5),
   ([120, 32, 48, 32, 45, 32, 45], 1, 1),
   ([48, 32, 45, 32, 45, 32, 48, 49], 1, 4),
   ([45, 32, 49, 32, 45, 32, 45], 1, 2)]
def progCases : List (List Nat × Int × Int) :=
  [([], 2, 1),
   ([104, 117, 109], 1, 1),
   ([103, 101, 116], 1, 2),
   ([103, 101, 116, 32, 50], 1, 2),
   ([115, 97, 121, 32, 49], 1, 2),
   ([115, 108, 105, 100, 101, 32, 48], 1, 3),
   ([115, 108, 105, 100, 101, 32, 55, 32, 48], 1, 2),
   ([115, 108, 105, 100, 101, 32, 48, 32, 49, 32, 50], 1, 4),
   ([103, 111, 32, 50], 1, 2),
   ([115, 97, 121, 10, 122, 101, 114, 111, 32, 51], 2, 2),
   ([112, 117, 116, 32, 45, 48], 1, 2)]
def errIs {α : Type} (r : Res α) (l p : Int) : Bool := match r with
  | .error e => decide (e.1 = l) && decide (e.2 = p)
  | .ok _ => false
theorem errIs_eq {α : Type} {r : Res α} {l p : Int} (h : errIs r l p = true) : r = .error (l, p) := by
  cases r with
  | ok a => cases h
  | error e =>
    obtain ⟨h1, h2⟩ := Bool.and_eq_true_iff.mp h
    rw [← of_decide_eq_true h1, ← of_decide_eq_true h2]
theorem prog_cases : progCases.all (fun c => decide (c.1.length ≤ 100) && errIs (readProgL 2 c.1) c.2.1 c.2.2) = true := by decide +kernel
theorem stand_cases : standCases.all (fun c => decide (c.1.length ≤ 100) && errIs (readStandL 4 (wordsL c.1)) c.2.1 c.2.2) = true := by decide +kernel
def cT (ts : List (Int × Int)) : Bool := decide (ts = [(0, 1), (1, 2)])
def knownT (n : Int) (ts : List (Int × Int)) : Bool := (decide (n = 3) && decide (ts = [(0, 1)])) || ((decide (n = 3) && decide (ts = [(0, 1), (1, 2)])) || (decide (n = 2) && decide (ts = [])))
def yardIs (t : List Nat) (l p : Int) : Bool := match yard1 t with
  | .error e => decide (e.1 = l) && decide (e.2 = p)
  | .ok (n, ts, l2) => knownT n ts && errIs (yard2 (cT ts) (finL t) n ts l2) l p
theorem yard_cases : yardCases.all (fun c => decide (c.1.length ≤ 100) && yardIs c.1 c.2.1 c.2.2) = true := by decide +kernel
theorem reach01 {x : Int} : x ∈ [(0 : Int), 1] ↔ Reach [(0, 1)] 0 x := by
  constructor
  · intro h
    rcases List.mem_cons.mp h with e | h
    · rw [e]
      exact .base
    · rw [List.mem_singleton.mp h]
      exact .fwd (a := 0) .base (by simp)
  · intro h
    induction h with
    | base => simp
    | fwd _ hm _ =>
      have := List.mem_singleton.mp hm
      cases this
      simp
    | bwd _ hm _ =>
      have := List.mem_singleton.mp hm
      cases this
      simp
theorem reach0 {x : Int} : x ∈ [(0 : Int)] ↔ Reach [] 0 x := by
  constructor
  · intro h
    rw [List.mem_singleton.mp h]
    exact .base
  · intro h
    induction h with
    | base => simp
    | fwd _ hm _ => cases hm
    | bwd _ hm _ => cases hm
theorem conn_known {n : Int} {ts : List (Int × Int)} (h : knownT n ts = true) : connB n ts = cT ts := by
  have cb : connB n ts = true ↔ Conn n ts := by
    unfold connB
    simp
  have iff : ∀ b : Bool, (Conn n ts ↔ b = true) → connB n ts = b := fun b k => by
    cases hb : connB n ts with
    | true => exact (k.mp (cb.mp hb)).symm
    | false => cases b with
      | false => rfl
      | true =>
        have := cb.mpr (k.mpr rfl)
        rw [hb] at this
        cases this
  refine iff _ ?_
  unfold knownT at h
  rcases Bool.or_eq_true_iff.mp h with h | h
  · obtain ⟨h1, h2⟩ := Bool.and_eq_true_iff.mp h
    have h1 := of_decide_eq_true h1
    have h2 := of_decide_eq_true h2
    subst h1
    subst h2
    rw [conn_iff (L := [0, 1]) (by decide) fun x => reach01]
    decide
  · rcases Bool.or_eq_true_iff.mp h with h | h
    · obtain ⟨h1, h2⟩ := Bool.and_eq_true_iff.mp h
      have h1 := of_decide_eq_true h1
      have h2 := of_decide_eq_true h2
      subst h1
      subst h2
      refine ⟨fun _ => rfl, fun _ => tree_conn (by decide) (fun t ht => by rcases List.mem_cons.mp ht with rfl | ht; (exact ⟨by decide, by decide, by decide⟩); rw [List.mem_singleton.mp ht]; exact ⟨by decide, by decide, by decide⟩) fun p h1 h2 => ?_⟩
      have : p = 1 ∨ p = 2 := by omega
      rcases this with rfl | rfl
      · exact ⟨0, by decide, by decide, by decide⟩
      · exact ⟨1, by decide, by decide, by decide⟩
    · obtain ⟨h1, h2⟩ := Bool.and_eq_true_iff.mp h
      have h1 := of_decide_eq_true h1
      have h2 := of_decide_eq_true h2
      subst h1
      subst h2
      rw [conn_iff (L := [0]) (by decide) fun x => reach0]
      decide
theorem yardIs_eq {t : List Nat} {l p : Int} (h : yardIs t l p = true) : readYardL t = .error (l, p) := by
  unfold yardIs at h
  unfold readYardL
  cases e : yard1 t with
  | error q =>
    rw [e] at h
    obtain ⟨h1, h2⟩ := Bool.and_eq_true_iff.mp h
    show Except.error q = _
    rw [← of_decide_eq_true h1, ← of_decide_eq_true h2]
  | ok q =>
    obtain ⟨n, ts, l2⟩ := q
    rw [e] at h
    obtain ⟨h1, h2⟩ := Bool.and_eq_true_iff.mp h
    show yard2 (connB n ts) (finL t) n ts l2 = _
    rw [conn_known h1]
    exact errIs_eq h2
end HK
set_option Elab.async false
set_option linter.all false
set_option maxRecDepth 100000
namespace HK
open PySem PySem.Spec PyProof.Rows L2 SX
theorem wd_vi {b m : Int} {i : Ins} (h : VI b m i) : Wd i.1 := by
  have dec : ∀ w ∈ [kSay, kAsk, kStop, kSlide, kGet, kPlus, kMinus, kSet, kPut, kZero, kGo], w ≠ [] ∧ 32 ∉ w ∧ 10 ∉ w := by decide
  refine dec i.1 ?_
  rcases h with ⟨h, _⟩ | ⟨h, _⟩ | ⟨h, _⟩ | ⟨h, _⟩ | ⟨h, _⟩
  · rcases isOne_cases h with e | e | e <;> rw [e] <;> decide
  · rw [h]
    decide
  · rcases isAsking_cases h with e | e | e | e <;> rw [e] <;> decide
  · rw [h]
    decide
  · rcases isJump_cases h with e | e <;> rw [e] <;> decide
theorem rw_ins {b m : Int} {i : Ins} (h : VI b m i) : Rw (insRow i) := ⟨by unfold insRow; simp, fun w hw => by
  rcases List.mem_cons.mp hw with e | hw
  · rw [e]
    exact wd_vi h
  · obtain ⟨n, _, rfl⟩ := List.mem_map.mp hw
    exact intL_wd n⟩
theorem rws_prog {books : Int} {p : List Ins} (hb : books ≤ 6) (v : VQ books 18 p) : RwS (p.map insRow) := by
  have hm : (p.length : Int) ≤ 6000 := by have := v.few; omega
  refine ⟨by intro z; exact v.ne (List.map_eq_nil_iff.mp z), by rw [List.length_map]; have := v.few; omega, fun r hr => ?_, fun r hr => ?_, fun r hr => ?_⟩
  · obtain ⟨i, hi, rfl⟩ := List.mem_map.mp hr
    exact rw_ins (v.ok i hi)
  · obtain ⟨i, hi, rfl⟩ := List.mem_map.mp hr
    have := vi_few (v.ok i hi)
    unfold insRow
    simp
    omega
  · obtain ⟨i, hi, rfl⟩ := List.mem_map.mp hr
    exact insRow_word hb hm (v.ok i hi)
theorem set_ne {α : Type} {l : List α} {k : Nat} {x : α} (h : l ≠ []) : l.set k x ≠ [] := fun e => h (List.length_eq_zero_iff.mp (by rw [← List.length_set (as := l) (i := k) (a := x), e]; rfl))
theorem rw_set {row : List (List Nat)} {j : Nat} {z : List Nat} (h : Rw row) (hz : Wd z) : Rw (row.set j z) := ⟨set_ne h.1, fun w hw => by
  rcases List.mem_or_eq_of_mem_set hw with a | rfl
  · exact h.2 w a
  · exact hz⟩
theorem rw_bent {rows : List (List (List Nat))} {row : List (List Nat)} {k j : Nat} {z : List Nat} (h : RwS rows) (hr : rows[k]? = some row) (hz : Wd z) : ∀ r ∈ rows.set k (row.set j z), Rw r := fun r hm => by
  rcases List.mem_or_eq_of_mem_set hm with a | rfl
  · exact h.rw r a
  · exact rw_set (h.rw row (List.mem_of_getElem? hr)) hz
theorem bent_len {rows : List (List (List Nat))} {row : List (List Nat)} {k j : Nat} {z : List Nat} (h : RwS rows) (hr : rows[k]? = some row) (hz : Wd z) (h9 : z.length ≤ 9) : RwS (rows.set k (row.set j z)) := by
  have hm := List.mem_of_getElem? hr
  refine ⟨set_ne h.ne, by rw [List.length_set]; exact h.few, rw_bent h hr hz, fun r hr => ?_, fun r hr => ?_⟩
  · rcases List.mem_or_eq_of_mem_set hr with a | rfl
    · exact h.four r a
    · rw [List.length_set]
      exact h.four row hm
  · rcases List.mem_or_eq_of_mem_set hr with a | rfl
    · exact h.nine r a
    · intro w hw
      rcases List.mem_or_eq_of_mem_set hw with b | rfl
      · exact h.nine row hm w b
      · exact h9
end HK
set_option Elab.async false
set_option linter.all false
set_option maxRecDepth 100000
set_option maxHeartbeats 1000000
/-! What the law's walk keeps; data laid by its written lists. -/
namespace HK
open PySem PySem.Spec PyProof.Rows L2 SX
abbrev qL : Str := (("law" : Str) ++ ".<locals>.") ++ "<lambda>"
/-- what holds between two statements of the law -/
structure LS (K : PySem.W.Frag) (d : Ad) (c : Scr) (r : Addr) (H : Hp) : Prop where
  row : RowA K c H r
  tb : Tb d.T H
  tl : LamX.TabS (hid r H) d.pL qL
  np : d.pL ∉ d.T
/-- from H on: all that stood ahead stands, but for the tables and the row -/
structure Lm (K : PySem.W.Frag) (d : Ad) (c : Scr) (r : Addr) (H H' : Hp) : Prop where
  s : LS K d c r H'
  go : Go (d.pL :: d.T) (hid r H) (hid r H')
section
variable {K : PySem.W.Frag} {d : Ad} {c : Scr} {r : Addr} {H H1 H2 : Hp}
theorem tabG_of {H : Hp} {P : Addr} {q : Str} (h : LamX.TabS H P q) : GxR.TabG H P := by
  obtain ⟨ps, a, b, _⟩ := h
  exact ⟨ps, a, b⟩
theorem LS.rn (S : LS K d c r H) : r ∉ d.T := S.row.row.no S.tb
theorem LS.tbs (S : LS K d c r H) : Tb (d.pL :: d.T) (hid r H) := fun P hP => by
  rcases List.mem_cons.mp hP with e | e
  · rw [e]
    exact tabG_of S.tl
  · exact tb_hid S.tb S.rn P e
theorem Lm.refl (S : LS K d c r H) : Lm K d c r H H := ⟨S, Go.refl S.tbs⟩
theorem Lm.trans (a : Lm K d c r H H1) (b : Lm K d c r H1 H2) : Lm K d c r H H2 := ⟨b.s, a.go.trans b.go⟩
theorem tabS_go {H H' : Hp} {T : List Addr} {P : Addr} {q : Str} (g : Go T H H') (n : P ∉ T) (h : LamX.TabS H P q) : LamX.TabS H' P q := by
  obtain ⟨ps, a, b, e⟩ := h
  refine ⟨ps, g.keep _ _ n a, b, fun pos cv hc => ?_⟩
  obtain ⟨c, e1, e2⟩ := e pos cv hc
  exact ⟨c, e1, g.at e2 fun qs => LamX.codeO_ne qs⟩
theorem LS.mv (S : LS K d c r H) (m : Mv c d.T r H H1) : Lm K d c r H H1 := by
  have S1 : LS K d c r H1 := ⟨S.row.mv m, m.tb, tabS_go m.go S.np S.tl, S.np⟩
  exact ⟨S1, S.tbs, S1.tbs, fun b o n e => m.go.keep b o (fun z => n (List.mem_cons_of_mem _ z)) e⟩
theorem LS.of_go (S : LS K d c r H) (g : Go d.T H H1) : Lm K d c r H H1 := S.mv (Mv.of_go S.row.row g)
theorem LS.eqs (S : LS K d c r H) (e : hid r H1 = hid r H) (h : RowL c H1 r) : Lm K d c r H H1 := S.mv (Mv.of_eq S.tb S.row.row e h)
theorem LS.put (S : LS K d c r H) {b : Addr} {o : HO} (n : H b = none) : Lm K d c r H (upd H b o) := S.mv ((Mv.refl S.tb S.row.row).then n)
theorem LS.same (S : LS K d c r H) (e : Same H H1) : Lm K d c r H H1 := S.of_go (Go.same S.tb e)
theorem Lm.put (m : Lm K d c r H H1) {b : Addr} {o : HO} (n : H1 b = none) : Lm K d c r H (upd H1 b o) := m.trans (m.s.put n)
theorem Lm.lam (S : LS K d c r H) (ke : ∀ b o, b ≠ d.pL → H b = some o → H1 b = some o) (t : LamX.TabS H1 d.pL qL) : Lm K d c r H H1 := by
  have hidk : ∀ b o, b ≠ d.pL → hid r H b = some o → hid r H1 b = some o := fun b o n e => by
    by_cases h : b = r
    · rw [h] at e
      unfold hid at e
      rw [if_pos rfl] at e
      cases e
    · rw [hid_ne h] at e ⊢
      exact ke b o n e
  have nrp : r ≠ d.pL := fun z => by
    obtain ⟨_, _, _, hr, _⟩ := S.row.row
    obtain ⟨ps, a, _⟩ := S.tl
    rw [← z] at a
    unfold hid at a
    rw [if_pos rfl] at a
    cases a
  have tb1 : Tb d.T H1 := fun P hP => by
    obtain ⟨ps, a, b⟩ := S.tb P hP
    exact ⟨ps, ke _ _ (fun z => S.np (by rw [← z]; exact hP)) a, b⟩
  have row1 : RowL c H1 r := by
    obtain ⟨i, s, e, h, h0⟩ := S.row.row
    exact ⟨i, s, e, ke _ _ nrp h, h0⟩
  have t1 : LamX.TabS (hid r H1) d.pL qL := by
    obtain ⟨ps, a, b, e⟩ := t
    refine ⟨ps, by rw [hid_ne (Ne.symm nrp)]; exact a, b, fun pos cv hc => ?_⟩
    obtain ⟨c', e1, e2⟩ := e pos cv hc
    refine ⟨c', e1, ?_⟩
    by_cases h : c' = r
    · obtain ⟨i, s, e, h1, h0⟩ := row1
      rw [h, h1] at e2
      unfold LamX.CodeO at e2
      cases e2
    · rw [hid_ne h]
      exact e2
  have sq1 : SqL K (hid r H1) c.sc (c.ns.map V.int) := by
    rcases S.row.sq with (h | ⟨o, h⟩) | h
    · exact .inl (.inl (hidk _ _ (fun z => by obtain ⟨ps, a, _⟩ := S.tl; rw [z, a] at h; cases h) h))
    · exact .inl (.inr ⟨o, hidk _ _ (fun z => by obtain ⟨ps, a, _⟩ := S.tl; rw [z, a] at h; cases h) h⟩)
    · exact .inr h
  have S1 : LS K d c r H1 := ⟨⟨row1, sq1, S.row.ne, S.row.le⟩, tb1, t1, S.np⟩
  exact ⟨S1, S.tbs, S1.tbs, fun b o n e => hidk b o (fun z => n (by rw [z]; exact List.mem_cons_self)) e⟩
theorem Lm.dp (m : Lm K d c r H H1) {v : V} {D : PyData} (h : Dp K (hid r H) v D) : Dp K (hid r H1) v D := Dp.go m.go h
theorem Lm.all (m : Lm K d c r H H1) {vs : List V} {D : List PyData} (h : DpAll K (hid r H) vs D) : DpAll K (hid r H1) vs D := DpAll.go m.go h
theorem Lm.lst (m : Lm K d c r H H1) {b : Addr} {xs : List V} (n : b ≠ r) (h : H b = some (.lst xs)) : H1 b = some (.lst xs) := by
  have := m.go.lst (a := b) (xs := xs) (by rw [hid_ne n]; exact h)
  rwa [hid_ne n] at this
theorem Lm.free (m : Lm K d c r H H1) {b : Addr} (n : H1 b = none) : H b = none := by
  have hb := m.s.row.row.ne n
  have := m.go.free (a := b) (by rw [hid_ne hb]; exact n)
  rwa [hid_ne hb] at this
theorem LS.up {H : Hp} {v : V} {D : PyData} (h : Dp K (hid r H) v D) : Dp K H v D := Dp.go go_r h
theorem LS.tabs (S : LS K d c r H) : LamX.TabS H d.pL qL := tabS_go (T := []) go_r (by simp) S.tl
/-! ### written data -/
def DE (K : PySem.W.Frag) (d : Ad) (c : Scr) (r : Addr) (σ : L2.St) (te : TE) (D : PyData) : Prop := ∀ H Q, LS K d c r H → (∀ v H', Lm K d c r H H' → Dp K (hid r H') v D → Q v H') → te σ H Q
def DA (K : PySem.W.Frag) (d : Ad) (c : Scr) (r : Addr) (σ : L2.St) (ta : TA) (Ds : List PyData) : Prop := ∀ H (Q : List V → Hp → Prop), LS K d c r H → (∀ vs H', Lm K d c r H H' → DpAll K (hid r H') vs Ds → Q vs H') → ta σ H Q
/-- a list that is new, or kept in a variable, read at H -/
def DLh (K : PySem.W.Frag) (d : Ad) (c : Scr) (r : Addr) (σ : L2.St) (H : Hp) (te : TE) (Ds : List PyData) : Prop := ∀ Q, (∀ p xs H', Lm K d c r H H' → p ≠ r → H' p = some (.lst xs) → DpAll K (hid r H') xs Ds → Q (.ref p) H') → te σ H Q
variable {σ : L2.St}
theorem de_str (x : Str) : DE K d c r σ (tC (.str x)) (.str x) := fun H Q S q => q _ _ (Lm.refl S) (.str x)
theorem de_int (x : Int) : DE K d c r σ (tC (.int x)) (.int x) := fun H Q S q => q _ _ (Lm.refl S) (.int x)
theorem da_nil : DA K d c r σ tNil [] := fun H Q S q => q _ _ (Lm.refl S) .nil
theorem da_cons {te : TE} {ta : TA} {D : PyData} {Ds : List PyData} (h : DE K d c r σ te D) (k : DA K d c r σ ta Ds) : DA K d c r σ (tCons te ta) (D :: Ds) := fun H Q S q =>
  h H _ S fun v H1 m1 d1 => k H1 _ m1.s fun vs H2 m2 d2 => q _ _ (m1.trans m2) (.cons (m2.dp d1) d2)
theorem de_tup {ta : TA} {Ds : List PyData} (h : DA K d c r σ ta Ds) (hl : Ds.length ≤ 100) : DE K d c r σ (tTup ta) (.tuple Ds) := fun H Q S q =>
  h H _ S fun vs H1 m1 d1 => ⟨by rw [DpAll.len d1, sizeLine_eq]; omega, fun p n => by
    have m2 := m1.s.put (o := .tup vs) n
    have np := m1.s.row.row.ne n
    exact q _ _ (m1.trans m2) (.tup (.inl (.inl (by rw [hid_ne np]; exact upd_same))) (m2.all d1))⟩
theorem dl_lst {ta : TA} {Ds : List PyData} (h : DA K d c r σ ta Ds) (hl : Ds.length ≤ 100) (S : LS K d c r H) : DLh K d c r σ H (tLst ta) Ds := fun Q q =>
  h H _ S fun vs H1 m1 d1 => ⟨by rw [DpAll.len d1, sizeLine_eq]; omega, fun p n => by
    have m2 := m1.s.put (o := .lst vs) n
    exact q p _ _ (m1.trans m2) (m1.s.row.row.ne n) upd_same (m2.all d1)⟩
theorem dl_var {i : Nat} {p : Addr} {xs : List V} {Ds : List PyData} (S : LS K d c r H) (hs : σ[i]? = some (some (.ref p))) (n : p ≠ r) (h : H p = some (.lst xs)) (a : DpAll K (hid r H) xs Ds) : DLh K d c r σ H (tVar i) Ds := fun Q q => ⟨_, hs, q p xs H (Lm.refl S) n h a⟩
theorem dl_cat {t1 t2 : TE} {D1 D2 : List PyData} (h : DLh K d c r σ H t1 D1) (k : ∀ H1, LS K d c r H1 → DLh K d c r σ H1 t2 D2) (hl : D1.length + D2.length ≤ 1000) : DLh K d c r σ H (tOp rCat t1 t2) (D1 ++ D2) := fun Q q =>
  h _ fun p xs H1 m1 n1 e1 a1 => k H1 m1.s _ fun p2 ys H2 m2 n2 e2 a2 => ⟨p, p2, xs, ys, rfl, rfl, m2.lst n1 e1, e2, by rw [DpAll.len a1, DpAll.len a2, sizeLine_eq]; omega, fun p3 n3 => by
    have m3 := m2.s.put (o := .lst (xs ++ ys)) n3
    exact q p3 _ _ ((m1.trans m2).trans m3) (m2.s.row.row.ne n3) upd_same (DpAll.append (m3.all (m2.all a1)) (m3.all a2))⟩
theorem de_add {i : Nat} {x y : Str} (hs : σ[i]? = some (some (.str x))) (hl : x.length + y.length ≤ 1000) : DE K d c r σ (tOp (fun x y H Q => ∃ i j, x = .str i ∧ y = .str j ∧ i.length + j.length ≤ sizeLine ∧ Q (.str (i ++ j)) H) (tVar i) (tC (.str y))) (.str (x ++ y)) := fun H Q S q =>
  ⟨_, hs, _, _, rfl, rfl, by rw [sizeLine_eq]; omega, q _ _ (Lm.refl S) (.str _)⟩
def caseD (t : Str) (l p : Int) : PyData := .tuple [.str t, .tuple [.int l, .int p]]
theorem de_case (t : Str) (l p : Int) : DE K d c r σ (tTup (tCons (tC (.str t)) (tCons (tTup (tCons (tC (.int l)) (tCons (tC (.int p)) tNil))) tNil))) (caseD t l p) :=
  de_tup (da_cons (de_str _) (da_cons (de_tup (da_cons (de_int _) (da_cons (de_int _) da_nil)) (by simp)) da_nil)) (by simp)
theorem de_caseV {i : Nat} (t : Str) (l p : Int) (hs : σ[i]? = some (some (.str t))) : DE K d c r σ (tTup (tCons (tVar i) (tCons (tTup (tCons (tC (.int l)) (tCons (tC (.int p)) tNil))) tNil))) (caseD t l p) :=
  de_tup (da_cons (fun H Q S q => ⟨_, hs, q _ _ (Lm.refl S) (.str t)⟩) (da_cons (de_tup (da_cons (de_int _) (da_cons (de_int _) da_nil)) (by simp)) da_nil)) (by simp)
theorem de_caseA {i : Nat} (x y : Str) (l p : Int) (hs : σ[i]? = some (some (.str x))) (hl : x.length + y.length ≤ 1000) :
    DE K d c r σ (tTup (tCons (tOp (fun x y H Q => ∃ i j, x = .str i ∧ y = .str j ∧ i.length + j.length ≤ sizeLine ∧ Q (.str (i ++ j)) H) (tVar i) (tC (.str y))) (tCons (tTup (tCons (tC (.int l)) (tCons (tC (.int p)) tNil))) tNil))) (caseD (x ++ y) l p) :=
  de_tup (da_cons (de_add hs hl) (da_cons (de_tup (da_cons (de_int _) (da_cons (de_int _) da_nil)) (by simp)) da_nil)) (by simp)
/-- the picked case, taken apart -/
theorem case_inv {H : Hp} {v : V} {t : Str} {l p : Int} (h : Dp K H v (caseD t l p)) : ∃ a u, v = .ref a ∧ SqT K H a [.str t, u] ∧ Dp K H u (.tuple [.int l, .int p]) := by
  obtain ⟨a, xs, rfl, h1, h2⟩ := Dp.tup_inv h
  obtain ⟨x, rs, rfl, h3, h4⟩ := DpAll.cons_inv h2
  obtain ⟨u, rs, rfl, h5, h6⟩ := DpAll.cons_inv h4
  rw [DpAll.nil_inv h6] at h1
  rw [Dp.str_inv h3] at h1
  exact ⟨a, u, rfl, h1, h5⟩
def caseOf (c : List Nat × Int × Int) : PyData := caseD (S c.1) c.2.1 c.2.2
theorem case_in {cs : List (List Nat × Int × Int)} {g : List Nat × Int × Int → Bool} (h : cs.all (fun c => decide (c.1.length ≤ 100) && g c) = true) {i : Nat} {D : PyData} (e : (cs.map caseOf)[i]? = some D) :
    ∃ c : List Nat × Int × Int, D = caseD (S c.1) c.2.1 c.2.2 ∧ c.1.length ≤ 100 ∧ g c = true := by
  rw [List.getElem?_map] at e
  cases k : cs[i]? with
  | none => rw [k] at e; cases e
  | some c =>
    rw [k] at e
    obtain ⟨h1, h2⟩ := Bool.and_eq_true_iff.mp (List.all_eq_true.mp h c (List.mem_of_getElem? k))
    exact ⟨c, (Option.some.inj e).symm, of_decide_eq_true h1, h2⟩
theorem said_bad {te : XK → TE} {l p : Int} {Qk : VK} (S : LS K d c r H) (h : ∀ H5 Qn E, Lm K d c r H H5 → Bad d H5 E (l, p) → te E σ H5 Qn)
    (k : ∀ t H6, Lm K d c r H H6 → Dp K H6 (.ref t) (.tuple [.int l, .int p]) → Qk (.ref t) H6) : tLamD d.pL qL (TSaid d) te σ H Qk :=
  ⟨S.tabs, fun H5 ke tS => by
    have m5 := Lm.lam S ke tS
    refine h H5 _ _ m5 fun H6 dx g6 hx => Or.inl ⟨rfl, dx, l, p, rfl, hx, fun t nt => k t _ ((m5.trans (m5.s.of_go g6)).put nt) (.tup (.inl (.inl upd_same)) (.cons (.int l) (.cons (.int p) .nil)))⟩⟩
theorem tup_use {ta : TA} {Ds : List PyData} {Q : VK} (h : DA K d c r σ ta Ds) (hl : Ds.length ≤ 100) (S : LS K d c r H) (k : ∀ v H', Lm K d c r H H' → Dp K (hid r H') v (.tuple Ds) → Q v H') : tTup ta σ H Q := de_tup h hl H Q S k
theorem de_pair (l p : Int) : DE K d c r σ (tTup (tCons (tC (.int l)) (tCons (tC (.int p)) tNil))) (.tuple [.int l, .int p]) := de_tup (da_cons (de_int _) (da_cons (de_int _) da_nil)) (by simp)
theorem said_none {te : XK → TE} {Qk : VK} (S : LS K d c r H) (h : ∀ H5 E Qn, Lm K d c r H H5 → (∀ v H6, Lm K d c r H H6 → Qn v H6) → te E σ H5 Qn)
    (k : ∀ H6, Lm K d c r H H6 → Qk .non H6) : tLamD d.pL qL (TSaid d) te σ H Qk :=
  ⟨S.tabs, fun H5 ke tS => h H5 _ _ (Lm.lam S ke tS) fun v H6 m6 => k H6 m6⟩
theorem eqv_pair (l p : Int) : PyData.eqv (.tuple [.int l, .int p]) (.tuple [.int l, .int p]) = true := by
  exact PySem.SeqAt.eqv_refl_plain _ rfl
end
end HK
set_option Elab.async false
set_option linter.all false
set_option maxRecDepth 100000
set_option maxHeartbeats 1000000
/-! Small facts for the law's walk. -/
namespace HK
open PySem PySem.Spec PyProof.Rows L2 SX
theorem books_count : ∀ st : List (Option Int), (booksL st).length + st.count none = st.length
  | [] => rfl
  | none :: st => by
    have := books_count st
    rw [List.count_cons_self, List.length_cons]
    have e : booksL (none :: st) = booksL st := rfl
    rw [e]
    omega
  | some n :: st => by
    have := books_count st
    rw [List.count_cons_of_ne (by intro z; cases z), List.length_cons]
    have e : booksL (some n :: st) = n :: booksL st := rfl
    rw [e, List.length_cons]
    omega
theorem books_range {n : Int} {st : List (Option Int)} (v : VS n st) : 1 ≤ n - ((st.count none : Nat) : Int) ∧ n - ((st.count none : Nat) : Int) ≤ 6 := by
  have h1 := books_count st
  have h2 := v.len
  have h3 := v.n7
  have h4 := List.length_pos_iff.mpr v.some_
  have h5 := List.count_pos_iff.mpr v.hole
  omega
theorem al_ints {n : Nat} (ks : List Int) : ∀ x ∈ ks.map PyData.int, Al n x := fun x hx => by
  obtain ⟨k, _, rfl⟩ := List.mem_map.mp hx
  exact .int k
theorem al_prog {books m : Int} {p : List Ins} (hl : p.length ≤ 1000) (h : ∀ i ∈ p, VI books m i) : Al 4 (progD p) := by
  refine .tup (n := 3) (fun x hx => ?_) (by rw [List.length_map]; exact hl)
  obtain ⟨i, hi, rfl⟩ := List.mem_map.mp hx
  refine .tup (n := 2) (fun y hy => ?_) ?_
  · rcases List.mem_cons.mp hy with rfl | hy
    · exact .str _
    · exact al_ints _ y hy
  · have := vi_few (h i hi)
    simp
    omega
theorem al_stand {st : List (Option Int)} (hl : st.length ≤ 1000) : Al 4 (standD st) := by
  refine .tup (n := 3) (fun x hx => ?_) (by rw [List.length_map]; exact hl)
  obtain ⟨o, _, rfl⟩ := List.mem_map.mp hx
  cases o with
  | none => exact .non
  | some b => exact .int b
theorem al_yard {y : Yd} (v : VY y) : Al 4 (yardD y) := by
  have few := vy_few v
  refine .tup (n := 3) (fun x hx => ?_) (by simp)
  rcases List.mem_cons.mp hx with rfl | hx
  · exact .int _
  rcases List.mem_cons.mp hx with rfl | hx
  · refine .tup (n := 2) (fun z hz => ?_) (by rw [List.length_map]; omega)
    obtain ⟨t, _, rfl⟩ := List.mem_map.mp hz
    exact .tup (n := 1) (al_ints [t.1, t.2]) (by simp)
  · rw [List.mem_singleton.mp hx]
    exact .int _
section
variable {K : PySem.W.Frag} {d : Ad} {c : Scr} {r : Addr} {H H1 : Hp}
theorem Lm.fz (m : Lm K d c r H H1) {p : Addr} {xs : List V} (h : FzT (hid r H) p xs) : FzT (hid r H1) p xs := FzT.go m.go h
theorem FzT.dp {st : List (Option Int)} {p : Addr} (h : FzT H p (st.map bookV)) : Dp K H (.ref p) (standD st) := .tup (FzT.sq h) (stand_all st)
end
def tLstK (K : PySem.W.Frag) (t : TA) : TE := fun σ H Q => t σ H fun xs H1 => xs.length ≤ sizeLine ∧ ∀ p, H1 p = none → K.lookup p = none → Q (.ref p) (upd H1 p (.lst xs))
section
variable {X : Cx} {es : List Expr} {pos : Pos} {t : TA}
theorem pe_lstK (K : PySem.W.Frag) (hK : X.K = K) (h : PA X es t) : PE X (.List es pos) (tLstK K t) := by
  subst hK
  refine ⟨fun pins s σ H Q I hq => ?_⟩
  refine wpAny_List_spliced (thn (h.run pos pins s σ H _ I hq) fun us s1 ⟨xs, H1, I1, r, z, q⟩ => ⟨by rw [← r.length]; exact z, ?_⟩)
  have hf : H1 s1.heap.objs.size = none := I1.hok.fresh (Nat.le_refl _)
  have hk : X.K.lookup s1.heap.objs.size = none := by
    cases e : X.K.lookup s1.heap.objs.size with
    | none => rfl
    | some o =>
      exact absurd (Heap.lt_size (I1.kIn _ _ e)) (Nat.lt_irrefl _)
  refine ⟨.ref s1.heap.objs.size, upd H1 s1.heap.objs.size (.lst xs), I1.laid (t' := s1.toks) (fun b u e => Heap.get?_push_of_some _ e) (Nat.le_refl _) ?_, rfl, q _ hf hk⟩
  exact ⟨z, us, 0, r, Heap.get?_push_size _ rfl⟩
end
end HK
set_option Elab.async false
set_option linter.all false
set_option maxRecDepth 100000
set_option maxHeartbeats 8000000
namespace HK
open PySem PySem.Spec PyProof.Rows L2 SX
theorem passL {P : Program} {w : World} {K : PySem.W.Frag} {mg : Str → Option Value} {base : Heap} {N : List Str} {q : Str} {sc : Scope} {f : Addr} {cd : Value} {A : Around} {outer : List Env} {s : Shared} {H : Hp} {E : XK} :
    Passes (L2.CX P w) (cxOf (L2.CX P w) P w K mg base N q sc f cd A outer s H E) E := passE
abbrev lawX (P : Program) (w : World) (K : PySem.W.Frag) (mg : Str → Option Value) (base : Heap) (d : Ad) (f : Addr) (A : Around) (outer : List Env) (s : Shared) (H : Hp) (E : XK) : Cx :=
  cxOf (L2.CX P w) P w K mg base n_law "law" (defScope s_law) f (.ref d.cL) A outer s H E
abbrev lawD (Q : VK) : Ends := { nx := fun _ H' => Q .non H', rt := Q }
abbrev lawRoom (d : Ad) (f : Addr) (A : Around) (s : Shared) : Prop := Room 11 (A.deeper (envOfC "law" (defScope s_law) s.heap.objs.size f (.ref d.cL)))
section
variable {P : Program} {w : World} {K : PySem.W.Frag} {mg : Str → Option Value} {base : Heap} {d : Ad} {f : Addr} {A : Around} {outer : List Env} {s : Shared} {H0 : Hp} {E : XK}
theorem law_h (T : Tx K mg d) (B : Tbs base mg d) (hr : lawRoom d f A s) (Q : VK) (hQ : ∀ H', Q (.bl true) H') :
    ∃ t, PSs (lawX P w K mg base d f A outer s H0 E) ((defBody s_law).drop 35) t ∧ ∀ {a0 a2 a3 a4 a5 a6 a7 a8 a9 a10 a11 a12 a13 a14 a15 a16 a17 a18 a19 a20 a21 a22 a23 a24 : Option V} (c : Scr) (r : Addr) H, LS K d c r H → t (lawD Q) [a0, some (.ref r), a2, a3, a4, a5, a6, a7, a8, a9, a10, a11, a12, a13, a14, a15, a16, a17, a18, a19, a20, a21, a22, a23, a24] H := by
  have d_law_pick : DK P w K mg base CX0 2 "_law_pick" (spLPick K) := dk_law_pick T
  have d_read_program : DK P w K mg base (L2.CX P w) 9 "read_program" (spReadProg K d) := dk_read_program T B
  refine ⟨_, (pss_cons (ps_set (i := 13) sc_law.nd rfl (Or.inl rfl) (pe_lst (pa_cons (pe_tup (pa_cons pe_str (pa_cons (pe_tup (pa_cons pe_int (pa_cons pe_int pa_nil))) pa_nil))) (pa_cons (pe_tup (pa_cons pe_str (pa_cons (pe_tup (pa_cons pe_int (pa_cons pe_int pa_nil))) pa_nil))) (pa_cons (pe_tup (pa_cons pe_str (pa_cons (pe_tup (pa_cons pe_int (pa_cons pe_int pa_nil))) pa_nil))) (pa_cons (pe_tup (pa_cons pe_str (pa_cons (pe_tup (pa_cons pe_int (pa_cons pe_int pa_nil))) pa_nil))) (pa_cons (pe_tup (pa_cons pe_str (pa_cons (pe_tup (pa_cons pe_int (pa_cons pe_int pa_nil))) pa_nil))) pa_nil)))))))
    (pss_cons (ps_set (i := 13) sc_law.nd rfl (Or.inl rfl) (pe_op op_cat (pv 13) (pe_lst (pa_cons (pe_tup (pa_cons pe_str (pa_cons (pe_tup (pa_cons pe_int (pa_cons pe_int pa_nil))) pa_nil))) (pa_cons (pe_tup (pa_cons pe_str (pa_cons (pe_tup (pa_cons pe_int (pa_cons pe_int pa_nil))) pa_nil))) (pa_cons (pe_tup (pa_cons pe_str (pa_cons (pe_tup (pa_cons pe_int (pa_cons pe_int pa_nil))) pa_nil))) (pa_cons (pe_tup (pa_cons pe_str (pa_cons (pe_tup (pa_cons pe_int (pa_cons pe_int pa_nil))) pa_nil))) pa_nil)))))))
    (pss_cons (ps_set (i := 13) sc_law.nd rfl (Or.inl rfl) (pe_op op_cat (pv 13) (pe_lst (pa_cons (pe_tup (pa_cons pe_str (pa_cons (pe_tup (pa_cons pe_int (pa_cons pe_int pa_nil))) pa_nil))) (pa_cons (pe_tup (pa_cons pe_str (pa_cons (pe_tup (pa_cons pe_int (pa_cons pe_int pa_nil))) pa_nil))) pa_nil)))))
    (pss_cons (ps_asg (pe_d d_law_pick hr (by decide) rfl pass0 (pa_cons (pv 1) (pa_cons (pv 13) pa_nil))) (pg_tupK K rfl (n := 2) (by rfl) (pgs_cons (pg_name (i := 14) sc_law.nd rfl (Or.inr rfl)) (pgs_cons (pg_name (i := 15) sc_law.nd rfl (Or.inl rfl)) pgs_nil))))
    (pss_one (ps_ret (pe_cmpR (op_eqDK K rfl hr.units) (pe_said (k := 9) (q := qL) T B hr (by rfl) rfl rfl rfl rfl (lamP_by (N := n_law) (sc := defScope s_law) (by decide +kernel)) ⟨rfl, (Or.inr ⟨_, _, rfl⟩)⟩ (by exact (by refine bd_one (a := "_law_f") (by intro z; cases z) rfl (fun t u doc pm cl c1 ct => ?_); refine' ⟨_, ?h1, ?h2⟩; (case h1 => exact rfl); (case h2 => exact rfl))) (fun _ _ _ _ _ _ _ hr => by exact (pe_d d_read_program hr (by decide) rfl (passes_call (takes_of rfl rfl rfl rfl) fun _ _ _ _ h => h) (pa_cons pe_int (pa_cons (pv 14) pa_nil))))) (pv 15) (nomark _)))))))), ?_⟩
  intros
  rename_i c r H S
  refine nx_ ?_
  refine dl_lst (da_cons (de_case _ _ _) (da_cons (de_case _ _ _) (da_cons (de_case _ _ _) (da_cons (de_case _ _ _) (da_cons (de_case _ _ _) da_nil))))) (by decide +kernel) S _ fun p1 xs1 H1 m1 n1 e1 a1 => ?_
  refine nx_ ?_
  refine dl_cat (dl_var m1.s rfl n1 e1 a1) (fun _ S' => dl_lst (da_cons (de_case _ _ _) (da_cons (de_case _ _ _) (da_cons (de_case _ _ _) (da_cons (de_case _ _ _) da_nil)))) (by decide +kernel) S') (by decide +kernel) _ fun p2 xs2 H2 m2 n2 e2 a2 => ?_
  refine nx_ ?_
  refine dl_cat (dl_var m2.s rfl n2 e2 a2) (fun _ S' => dl_lst (da_cons (de_case _ _ _) (da_cons (de_case _ _ _) da_nil)) (by decide +kernel) S') (by decide +kernel) _ fun p3 xs3 H3 m3 n3 e3 a3 => ?_
  refine nx_ ?_
  refine ⟨_, rfl, _, rfl, c, r, p3, xs3, rfl, m3.s.row, SqL.of (by rw [hid_ne n3]; exact e3), by rw [DpAll.len a3]; decide, by rw [DpAll.len a3]; decide, fun i v H4 hi e4 row4 => ?_⟩
  obtain ⟨D, hD, dv⟩ := DpAll.get' a3 hi
  obtain ⟨cs, rfl, hl, hg⟩ := case_in prog_cases (show (progCases.map caseOf)[i]? = some D from hD)
  have m4 := m3.s.eqs e4 row4
  obtain ⟨pa, u, rfl, sq, du⟩ := case_inv (m4.dp dv)
  refine ⟨pa, _, rfl, SqT.up (r := r) sq, rfl, _, _, rfl, _, _, rfl, rfl, ?_⟩
  refine said_bad (l := cs.2.1) (p := cs.2.2) m4.s (fun H5 Qn E5 m5 bad => ?_) fun t H6 m6 dt => ?_
  · refine ⟨_, rfl, 2, cs.1, rfl, by decide, by decide, by omega, m5.s.tb, ?_⟩
    rw [errIs_eq hg]
    exact bad
  · refine ⟨_, rfl, _, _, dt, LS.up (m6.dp du), by rfl, by rfl, ?_⟩
    rw [eqv_pair]
    exact hQ _
end
end HK
set_option Elab.async false
set_option linter.all false
set_option maxRecDepth 100000
set_option maxHeartbeats 8000000
namespace HK
open PySem PySem.Spec PyProof.Rows L2 SX
def progWords : List (List Nat) := [kGet, kGo, kSay, kPut, [48], [54], [45, 49], [57, 57], [48, 48], kSlide, [104, 117, 109]]
theorem VP.of_vq {books : Int} {p : List Ins} (v : VQ books 18 p) : VP books p := ⟨v.ne, by have := v.few; omega, v.ok⟩
theorem lines_fst {rows : List (List (List Nat))} (h : RwS rows) : (linesL (textL rows)).map (·.1) = rows := by
  rw [linesL_text h.ne h.rw, List.map_map]
  show (rows.zipIdx).map Prod.fst = rows
  exact List.zipIdx_map_fst ..
theorem strs_inv {K : PySem.W.Frag} {H : Hp} : ∀ {ws : List (List Nat)} {xs : List V}, DpAll K H xs (ws.map fun w => .str (S w)) → xs = ws.map wV
  | [], _, h => DpAll.nil_inv h
  | w :: ws, xs, h => by
    obtain ⟨v, r, rfl, a, b⟩ := DpAll.cons_inv h
    rw [Dp.str_inv a, strs_inv b]
    rfl
section
variable {P : Program} {w : World} {K : PySem.W.Frag} {mg : Str → Option Value} {base : Heap} {d : Ad} {f : Addr} {A : Around} {outer : List Env} {s : Shared} {H0 : Hp} {E : XK}
theorem law_g (T : Tx K mg d) (B : Tbs base mg d) (hr : lawRoom d f A s) (Q : VK) (hQ : ∀ H', Q (.bl true) H') :
    ∃ t, PSs (lawX P w K mg base d f A outer s H0 E) ((defBody s_law).drop 32) t ∧ ∀ {a0 a2 a3 a4 a5 a6 a8 a9 a10 a11 a12 a13 a14 a15 a16 a17 a18 a19 a21 a22 a23 a24 : Option V} (c : Scr) (r : Addr) (books : Int) (p : List Ins) H, LS K d c r H → 1 ≤ books → books ≤ 6 → VQ books 18 p → t (lawD Q) [a0, some (.ref r), a2, a3, a4, a5, a6, some (.str (S (progText p))), a8, a9, a10, a11, a12, a13, a14, a15, a16, a17, a18, a19, some (.int books), a21, a22, a23, a24] H := by
  have d_law_bent : DK P w K mg base CX0 3 "_law_bent" (spLBent K d) := dk_law_bent T
  have d_write_program : DK P w K mg base CX0 8 "write_program" (spWriteProg K d) := dk_write_program T B
  have d_read_program : DK P w K mg base (L2.CX P w) 9 "read_program" (spReadProg K d) := dk_read_program T B
  obtain ⟨t, ht, rd⟩ := law_h (P := P) (w := w) (outer := outer) (H0 := H0) (E := E) T B hr Q hQ
  refine ⟨_, (pss_cons (ps_asg (pe_d d_law_bent hr (by decide) rfl pass0 (pa_cons (pv 1) (pa_cons (pv 7) (pa_cons (pe_lst (pa_cons pe_str (pa_cons pe_str (pa_cons pe_str (pa_cons pe_str (pa_cons pe_str (pa_cons pe_str (pa_cons pe_str (pa_cons pe_str (pa_cons pe_str (pa_cons pe_str (pa_cons pe_str pa_nil)))))))))))) pa_nil)))) (pg_tupK K rfl (n := 3) (by rfl) (pgs_cons (pg_name (i := 8) sc_law.nd rfl (Or.inr rfl)) (pgs_cons (pg_name (i := 9) sc_law.nd rfl (Or.inl rfl)) (pgs_cons (pg_name (i := 10) sc_law.nd rfl (Or.inl rfl)) pgs_nil)))))
    (pss_cons (ps_set (i := 11) sc_law.nd rfl (Or.inl rfl) (pe_said (k := 9) (q := qL) T B hr (by rfl) rfl rfl rfl rfl (lamP_by (N := n_law) (sc := defScope s_law) (by decide +kernel)) ⟨rfl, (Or.inr ⟨_, _, rfl⟩)⟩ (by exact (by refine bd_one (a := "_law_d") (by intro z; cases z) rfl (fun t u doc pm cl c1 ct => ?_); refine' ⟨_, ?h1, ?h2⟩; (case h1 => exact rfl); (case h2 => exact rfl))) (fun _ _ _ _ _ _ _ hr => by exact (pe_d d_read_program hr (by decide) rfl (passes_call (takes_of rfl rfl rfl rfl) fun _ _ _ _ h => h) (pa_cons (pv 20) (pa_cons (pv 8) pa_nil))))))
    (pss_cons (ps_if (PW.pt (pw_or (PW.pt (pw_and (pt_cmpR op_isN (pv 11) pe_non (nomark _)) (pw_and1 (pt_cmpR op_ne (pe_d d_write_program hr (by decide) rfl pass0 (pa_cons (pv 20) (pa_cons (pe_d d_read_program hr (by decide) rfl passL (pa_cons (pv 20) (pa_cons (pv 8) pa_nil))) pa_nil))) (pv 8) (nomark _))))) (pw_or1 (PW.pt (pw_and (pt_cmpR op_notN (pv 11) pe_non (nomark _)) (pw_and1 (pt_cmpR op_ne (pe_ix (ix_seqK K rfl) (pv 11) pe_int (fun _ _ => rfl)) (pv 9) (nomark _))))))))
      (pss_one (ps_ret pe_bl))
      pss_nil)
    ht))), ?_⟩
  intros
  rename_i c r books p H S b1 b6 V0
  refine nx_ ?_
  refine ⟨_, rfl, _, rfl, ?_⟩
  refine dl_lst (da_cons (de_str _) (da_cons (de_str _) (da_cons (de_str _) (da_cons (de_str _) (da_cons (de_str _) (da_cons (de_str _) (da_cons (de_str _) (da_cons (de_str _) (da_cons (de_str _) (da_cons (de_str _) (da_cons (de_str _) da_nil))))))))))) (by decide +kernel) S _ fun pw xs H1 m1 n1 e1 a1 => ?_
  have ex := strs_inv (ws := progWords) a1
  subst ex
  have VB := VP.of_vq V0
  have RS := rws_prog b6 V0
  refine ⟨c, r, pw, p.map insRow, progWords, rfl, m1.s.row, m1.s.tb, RS, SqL.of (by rw [hid_ne n1]; exact e1), by decide, by decide, by decide, fun k row j z pt H2 hk hj hz mv sq => ?_⟩
  have m2 := m1.s.mv mv
  have wz : Wd z ∧ z.length ≤ 9 := (show ∀ z ∈ progWords, Wd z ∧ z.length ≤ 9 by unfold Wd; decide) z hz
  have RB := bent_len (j := j) RS hk wz.1 wz.2
  refine ⟨pt, _, rfl, SqT.up (r := r) sq, rfl, _, _, rfl, _, _, rfl, _, _, rfl, rfl, ?_⟩
  dsimp only
  refine nx_ ?_
  have tl := RB.text
  cases hR : readProgL books (textL ((p.map insRow).set k (row.set j z))) with
  | error e =>
    have he := bent_prog b6 VB RB.rw hR
    refine said_bad (l := e.1) (p := e.2) m2.s (fun H5 Qn E5 m5 bad => ?_) fun tt H6 m6 dt => ?_
    · refine ⟨_, rfl, _, rfl, books, _, rfl, b1, b6, by omega, m5.s.tb, ?_⟩
      rw [hR]
      exact bad
    · dsimp only
      refine nx_ ?_
      refine ⟨_, rfl, rfl, _, rfl, ?_⟩
      rw [decide_eq_false (fun y => by cases y)]
      refine iteF (iteF ?_)
      refine ⟨_, rfl, rfl, _, rfl, ?_⟩
      rw [decide_eq_false (fun y => by cases y)]
      refine iteT ?_
      obtain ⟨pp, ep, sp⟩ := Dp.pair_inv dt
      cases ep
      refine ⟨_, rfl, Or.inr (Or.inl ⟨_, _, 0, _, rfl, rfl, sp, atI_nat (j := 0) (v := .int e.1) rfl, ?_⟩)⟩
      refine ⟨_, rfl, rfl, _, rfl, ?_⟩
      rw [he, decide_eq_true rfl]
      refine iteF ?_
      exact rd c r H6 m6.s
  | ok p' =>
    refine said_none m2.s (fun H5 E5 Qn m5 q => ?_) fun H6 m6 => ?_
    · refine ⟨_, rfl, _, rfl, books, _, rfl, b1, b6, by omega, m5.s.tb, ?_⟩
      rw [hR]
      exact fun H6 v g6 _ => q v H6 (m5.trans (m5.s.of_go g6))
    · refine nx_ ?_
      have hlen : (linesL (textL ((p.map insRow).set k (row.set j z)))).length ≤ 6000 := by
        have e := congrArg List.length (lines_fst RB)
        rw [List.length_map] at e
        have := RB.few
        omega
      obtain ⟨vp, hw⟩ := readProg_some hlen hR
      rw [lines_fst RB] at hw
      refine ⟨_, rfl, rfl, _, rfl, ?_⟩
      rw [decide_eq_true rfl]
      refine iteT ?_
      refine ⟨_, rfl, _, rfl, _, rfl, books, _, rfl, b1, b6, by omega, m6.s.tb, ?_⟩
      rw [hR]
      refine fun H7 v7 g7 d7 => ?_
      have m7 := m6.s.of_go g7
      refine ⟨v7, books, p', rfl, b1, b6, d7, vp, m7.s.tb, fun H8 g8 => ?_⟩
      have m8 := m7.s.of_go g8
      refine ⟨_, rfl, rfl, _, rfl, ?_⟩
      rw [show progText p' = textL ((p.map insRow).set k (row.set j z)) from congrArg textL hw.symm, decide_eq_true rfl]
      refine iteF ?_
      refine ⟨_, rfl, rfl, _, rfl, ?_⟩
      rw [decide_eq_true rfl]
      refine iteF (iteF ?_)
      exact rd c r H8 m8.s
end
end HK
set_option Elab.async false
set_option linter.all false
set_option maxRecDepth 100000
set_option maxHeartbeats 8000000
namespace HK
open PySem PySem.Spec PyProof.Rows L2 SX
section
variable {P : Program} {w : World} {K : PySem.W.Frag} {mg : Str → Option Value} {base : Heap} {d : Ad} {f : Addr} {A : Around} {outer : List Env} {s : Shared} {H0 : Hp} {E : XK}
theorem law_f (T : Tx K mg d) (B : Tbs base mg d) (hr : lawRoom d f A s) (Q : VK) (hQ : ∀ H', Q (.bl true) H') :
    ∃ t, PSs (lawX P w K mg base d f A outer s H0 E) ((defBody s_law).drop 28) t ∧ ∀ {a0 a2 a4 a5 a6 a7 a8 a9 a10 a11 a12 a13 a14 a15 a17 a18 a19 a20 a21 a22 a23 a24 : Option V} (c : Scr) (r : Addr) (n : Int) (p16 : Addr) (st : List (Option Int)) H, LS K d c r H → VS n st → FzT (hid r H) p16 (st.map bookV) → t (lawD Q) [a0, some (.ref r), a2, some (.int n), a4, a5, a6, a7, a8, a9, a10, a11, a12, a13, a14, a15, some (.ref p16), a17, a18, a19, a20, a21, a22, a23, a24] H := by
  have d_law_program : DK P w K mg base CX0 3 "_law_program" (spLProg K d) := dk_law_program T
  have d_law_kept : DK P w K mg base CX0 2 "_law_kept" (spLKept K d) := dk_law_kept T
  have d_law_loose : DK P w K mg base CX0 2 "_law_loose" (spLLoose K d) := dk_law_loose T
  have d_law_alike : DK P w K mg base CX0 6 "_law_alike" (spAlike K 4) := dk_law_alike T 4
  have d_write_program : DK P w K mg base CX0 8 "write_program" (spWriteProg K d) := dk_write_program T B
  have d_read_program : DK P w K mg base (L2.CX P w) 9 "read_program" (spReadProg K d) := dk_read_program T B
  obtain ⟨t, ht, rd⟩ := law_g (P := P) (w := w) (outer := outer) (H0 := H0) (E := E) T B hr Q hQ
  refine ⟨_, (pss_cons (ps_set (i := 20) sc_law.nd rfl (Or.inr rfl) (pe_op op_sub (pv 3) (pe_tcnt K hr.units (pv 16))))
    (pss_cons (ps_set (i := 21) sc_law.nd rfl (Or.inl rfl) (pe_d d_law_kept hr (by decide) rfl pass0 (pa_cons (pv 1) (pa_cons (pe_d d_law_program hr (by decide) rfl pass0 (pa_cons (pv 1) (pa_cons (pv 20) (pa_cons pe_int pa_nil)))) (pa_cons (pv 3) pa_nil)))))
    (pss_cons (ps_set (i := 7) sc_law.nd rfl (Or.inl rfl) (pe_joinK K rfl pe_str (by exact (pe_lc (own := [("_law_one", 22)]) (by rfl) sc_law.nd (pi_tupK K rfl (pv 21)) (blkOk_by (own := [("_law_one", 22)]) (N := n_law) (sc := defScope s_law) (by decide +kernel)) (fun _ _ _ _ _ => by exact (pg_name (i := 22) sc_law.nd rfl (Or.inl rfl))) (fun _ _ _ _ _ => by exact pts_nil) (fun _ _ _ _ _ => by exact (pe_joinK K rfl pe_str (by exact (pe_lc (own := [("_law_part", 24)]) (by rfl) sc_law.nd (pi_tupK K rfl (pv 22)) (blkOk_nf (own := [("_law_part", 24)]) (N := n_law) (sc0 := defScope s_law) (by decide +kernel) (by decide +kernel)) (fun _ _ _ _ _ => by exact (pg_name (i := 24) sc_law.nd rfl (Or.inl rfl))) (fun _ _ _ _ _ => by exact pts_nil) (fun _ _ _ _ _ => by exact (pe_callTy call_strA (by rfl) T.f_str (by decide +kernel) (pa_cons (pv 24) pa_nil)))))))))))
    (pss_cons (ps_if (PW.pt (pw_or (pt_cmpR op_ne (pe_d d_write_program hr (by decide) rfl pass0 (pa_cons (pv 20) (pa_cons (pv 21) pa_nil))) (pv 7) (nomark _)) (pw_or1 (pt_not (pt_val (pe_d d_law_alike hr (by decide) rfl pass0 (pa_cons (pe_d d_read_program hr (by decide) rfl passL (pa_cons (pv 20) (pa_cons (pe_d d_law_loose hr (by decide) rfl pass0 (pa_cons (pv 1) (pa_cons (pv 7) pa_nil))) pa_nil))) (pa_cons (pv 21) pa_nil))))))))
      (pss_one (ps_ret pe_bl))
      pss_nil)
    ht)))), ?_⟩
  intros
  rename_i c r n p16 st H S0 V0 f16
  have hn2 := V0.n2
  have hn7 := V0.n7
  refine nx_ ?_
  refine ⟨_, rfl, _, rfl, p16, st, rfl, FzT.go (go_r (r := r)) f16, _, _, rfl, rfl, ?_⟩
  obtain ⟨b1, b6⟩ := books_range V0
  refine top_ ?_
  dsimp only
  generalize n - ((st.count none : Nat) : Int) = books at b1 b6
  refine nx_ ?_
  refine ⟨_, rfl, _, rfl, _, rfl, c, r, books, rfl, S0.row, S0.tb, b1, b6, fun p0 v0 H1 vq0 mv1 dp0 => ?_⟩
  have m1 := S0.mv mv1
  refine ⟨_, rfl, c, r, v0, books, n, p0, rfl, m1.s.row, m1.s.tb, dp0, vq0, hn2, hn7, fun p v H2 vq mv2 dp => ?_⟩
  have m2 := m1.trans (m1.s.mv mv2)
  have VB := VP.of_vq vq
  have RS := rws_prog b6 vq
  refine top_ ?_
  dsimp only
  refine nx_ ?_
  obtain ⟨a, xs, rfl, ha, hall⟩ := Dp.tup_inv (LS.up dp)
  have xlen : xs.length = p.length := by
    have := DpAll.len hall
    simpa using this
  have hm := VB.most
  refine ⟨⟨_, rfl⟩, _, rfl, a, rfl, ⟨_, ha⟩, fun D nD => ?_⟩
  refine lc_val (walk_tup (xs := xs)) m2.s.tb nD (fun H' g => g.st ha) yat_same (by omega) (fun i => (p[i]?).bind fun t => some (wV (rowL (insRow t)))) (fun i x H' H'' Post hi go hy gy hp => ?_) (fun H3 g3 e3 => ?_)
  · obtain ⟨rfl, hx⟩ := hy
    obtain ⟨dd, e1, e2⟩ := DpAll.get' hall hx
    rw [List.getElem?_map] at e1
    cases et : p[i]? with
    | none => rw [et] at e1; cases e1
    | some ins =>
      rw [et] at e1
      have e3 : dd = insD ins := (Option.some.inj e1).symm
      subst e3
      obtain ⟨b, rfl, hb⟩ := Dp.ins_inv (Dp.go go e2)
      have vi := VB.ok ins (List.mem_of_getElem? et)
      rw [et] at hp
      refine ⟨rfl, ?_⟩
      refine yes_ ?_
      refine ⟨⟨_, rfl⟩, _, rfl, b, rfl, ⟨_, hb⟩, fun D2 nD2 => ?_⟩
      refine lc_val (walk_tup (xs := V.str (S ins.1) :: ins.2.map V.int)) gy.t1 nD2 (fun H' g => g.st hb) yat_same (by have := vi_few vi; simp; omega) (fun j => ((insRow ins)[j]?).bind fun w => some (wV w)) (fun j x2 H4 H5 Post2 hj go2 hy2 gy2 hp2 => ?_) (fun H6 g6 e6 => ?_)
      · obtain ⟨rfl, hx2⟩ := hy2
        refine ⟨rfl, ?_⟩
        refine yes_ ?_
        have hp2' := hp2 H5 (Go.refl gy2.t1)
        cases j with
        | zero =>
          have ex : x2 = V.str (S ins.1) := (Option.some.inj hx2).symm
          subst ex
          exact ⟨_, rfl, .inr ⟨_, rfl, hp2'⟩⟩
        | succ j =>
          rw [List.getElem?_cons_succ, List.getElem?_map] at hx2
          cases ek : ins.2[j]? with
          | none => rw [ek] at hx2; cases hx2
          | some k =>
            rw [ek] at hx2
            have ex : x2 = V.int k := (Option.some.inj hx2).symm
            subst ex
            refine ⟨_, rfl, .inl ⟨k, rfl, int_log (vi_abs b6 hm vi k (List.mem_of_getElem? ek)), ?_⟩⟩
            rw [int_toS]
            have e9 : (insRow ins)[j + 1]? = some (intL k) := by
              unfold insRow
              rw [List.getElem?_cons_succ, List.getElem?_map, ek]
              rfl
            rw [e9] at hp2'
            exact hp2'
      · have hlen9 : (V.str (S ins.1) :: ins.2.map V.int).length = (insRow ins).length := by simp [insRow]
        rw [hlen9, range_get, map_filterMap_some] at e6
        refine join_words (ws := insRow ins) (SqL.of e6) (fun r hr => by have := insRow_word b6 hm vi r hr; omega) (by rw [← hlen9]; have := vi_few vi; simp; omega) ?_
        exact hp H6 g6
  · rw [xlen, range_get, map_filterMap_some] at e3
    have m3 := m2.trans (m2.s.of_go g3)
    have dp3 := (m2.s.of_go g3).dp dp
    refine join_rows (rows := p.map insRow) (SqL.of ?_) (fun r hr => ?_) (by rw [List.length_map]; omega) ?_
    · rw [e3, List.map_map, List.map_map]
      rfl
    · obtain ⟨i, hi, rfl⟩ := List.mem_map.mp hr
      have := insRow_len b6 hm (VB.ok i hi)
      omega
    refine top_ ?_
    dsimp only
    refine nx_ ?_
    refine ⟨_, rfl, _, rfl, _, books, p, rfl, b1, b6, LS.up dp3, VB, m3.s.tb, fun H4 g4 => ?_⟩
    have m4 := m3.trans (m3.s.of_go g4)
    have dp4 := (m3.s.of_go g4).dp dp3
    refine ⟨_, rfl, rfl, _, rfl, ?_⟩
    rw [show S (textL (p.map insRow)) = S (progText p) from rfl, decide_eq_true rfl]
    refine iteF ?_
    refine ⟨_, rfl, _, rfl, _, rfl, c, r, p.map insRow, rfl, m4.s.row, m4.s.tb, RS, fun t5 H5 ht hl mv5 => ?_⟩
    have m5 := m4.trans (m4.s.mv mv5)
    have dp5 := (m4.s.mv mv5).dp dp4
    refine ⟨books, t5, rfl, b1, b6, hl, m5.s.tb, ?_⟩
    rw [readProg_ok b6 VB ht]
    refine fun H6 v6 g6 d6 => ?_
    have m6 := m5.s.of_go g6
    refine ⟨_, rfl, v6, _, progD p, rfl, d6, LS.up (m6.dp dp5), al_prog (by have := vq.few; omega) VB.ok, fun H7 sm => ?_⟩
    have m7 := m6.s.same sm
    refine ⟨_, rfl, ?_⟩
    exact rd c r books p H7 m7.s b1 b6 vq
end
end HK
set_option Elab.async false
set_option linter.all false
set_option maxRecDepth 100000
set_option maxHeartbeats 8000000
namespace HK
open PySem PySem.Spec PyProof.Rows L2 SX
abbrev y4 : Yd := ⟨4, [(0, 1), (1, 2), (2, 3)], 0⟩
theorem vy4 : VY y4 := by
  have ht : ∀ t ∈ y4.ties, TieOk 4 t := fun t ht => by
    rcases List.mem_cons.mp ht with rfl | ht
    · exact ⟨by decide, by decide, by decide⟩
    · rcases List.mem_cons.mp ht with rfl | ht
      · exact ⟨by decide, by decide, by decide⟩
      · rw [List.mem_singleton.mp ht]
        exact ⟨by decide, by decide, by decide⟩
  refine ⟨by decide, by decide, ht, ?_, ?_, by decide, by decide⟩
  · refine .cons (fun t ht => ?_) (.cons (fun t ht => ?_) (.cons (fun t ht => nomatch ht) .nil))
    · rcases List.mem_cons.mp ht with rfl | ht
      · exact .inl (by decide)
      · rw [List.mem_singleton.mp ht]
        exact .inl (by decide)
    · rw [List.mem_singleton.mp ht]
      exact .inl (by decide)
  · refine tree_conn (by decide) ht fun p h1 h2 => ?_
    have : p = 1 ∨ p = 2 ∨ p = 3 := by
      have h2 : p < 4 := h2
      omega
    rcases this with rfl | rfl | rfl
    · exact ⟨0, by decide, by decide, by decide⟩
    · exact ⟨1, by decide, by decide, by decide⟩
    · exact ⟨2, by decide, by decide, by decide⟩
section
variable {P : Program} {w : World} {K : PySem.W.Frag} {mg : Str → Option Value} {base : Heap} {d : Ad} {f : Addr} {A : Around} {outer : List Env} {s : Shared} {H0 : Hp} {E : XK}
theorem law_e (T : Tx K mg d) (B : Tbs base mg d) (hr : lawRoom d f A s) (Q : VK) (hQ : ∀ H', Q (.bl true) H') :
    ∃ t, PSs (lawX P w K mg base d f A outer s H0 E) ((defBody s_law).drop 22) t ∧ ∀ {a0 a2 a4 a5 a6 a7 a8 a9 a10 a11 a12 a13 a14 a15 a17 a18 a19 a20 a21 a22 a23 a24 : Option V} (c : Scr) (r : Addr) (n : Int) (p16 : Addr) (st : List (Option Int)) H, LS K d c r H → VS n st → FzT (hid r H) p16 (st.map bookV) → t (lawD Q) [a0, some (.ref r), a2, some (.int n), a4, a5, a6, a7, a8, a9, a10, a11, a12, a13, a14, a15, some (.ref p16), a17, a18, a19, a20, a21, a22, a23, a24] H := by
  have d_law_pick : DK P w K mg base CX0 2 "_law_pick" (spLPick K) := dk_law_pick T
  have d_read_standing : DK P w K mg base (L2.CX P w) 9 "read_standing" (spReadStand K d) := dk_read_standing T B
  obtain ⟨t, ht, rd⟩ := law_f (P := P) (w := w) (outer := outer) (H0 := H0) (E := E) T B hr Q hQ
  refine ⟨_, (pss_cons (ps_set (i := 19) sc_law.nd rfl (Or.inr rfl) (pe_tup (pa_cons pe_int (pa_cons (pe_tup (pa_cons (pe_tup (pa_cons pe_int (pa_cons pe_int pa_nil))) (pa_cons (pe_tup (pa_cons pe_int (pa_cons pe_int pa_nil))) (pa_cons (pe_tup (pa_cons pe_int (pa_cons pe_int pa_nil))) pa_nil)))) (pa_cons pe_int pa_nil)))))
    (pss_cons (ps_set (i := 13) sc_law.nd rfl (Or.inl rfl) (pe_lst (pa_cons (pe_tup (pa_cons pe_str (pa_cons (pe_tup (pa_cons pe_int (pa_cons pe_int pa_nil))) pa_nil))) (pa_cons (pe_tup (pa_cons pe_str (pa_cons (pe_tup (pa_cons pe_int (pa_cons pe_int pa_nil))) pa_nil))) (pa_cons (pe_tup (pa_cons pe_str (pa_cons (pe_tup (pa_cons pe_int (pa_cons pe_int pa_nil))) pa_nil))) (pa_cons (pe_tup (pa_cons pe_str (pa_cons (pe_tup (pa_cons pe_int (pa_cons pe_int pa_nil))) pa_nil))) (pa_cons (pe_tup (pa_cons pe_str (pa_cons (pe_tup (pa_cons pe_int (pa_cons pe_int pa_nil))) pa_nil))) pa_nil)))))))
    (pss_cons (ps_set (i := 13) sc_law.nd rfl (Or.inl rfl) (pe_op op_cat (pv 13) (pe_lst (pa_cons (pe_tup (pa_cons pe_str (pa_cons (pe_tup (pa_cons pe_int (pa_cons pe_int pa_nil))) pa_nil))) (pa_cons (pe_tup (pa_cons pe_str (pa_cons (pe_tup (pa_cons pe_int (pa_cons pe_int pa_nil))) pa_nil))) (pa_cons (pe_tup (pa_cons pe_str (pa_cons (pe_tup (pa_cons pe_int (pa_cons pe_int pa_nil))) pa_nil))) (pa_cons (pe_tup (pa_cons pe_str (pa_cons (pe_tup (pa_cons pe_int (pa_cons pe_int pa_nil))) pa_nil))) pa_nil)))))))
    (pss_cons (ps_set (i := 13) sc_law.nd rfl (Or.inl rfl) (pe_op op_cat (pv 13) (pe_lst (pa_cons (pe_tup (pa_cons pe_str (pa_cons (pe_tup (pa_cons pe_int (pa_cons pe_int pa_nil))) pa_nil))) (pa_cons (pe_tup (pa_cons pe_str (pa_cons (pe_tup (pa_cons pe_int (pa_cons pe_int pa_nil))) pa_nil))) pa_nil)))))
    (pss_cons (ps_asg (pe_d d_law_pick hr (by decide) rfl pass0 (pa_cons (pv 1) (pa_cons (pv 13) pa_nil))) (pg_tupK K rfl (n := 2) (by rfl) (pgs_cons (pg_name (i := 14) sc_law.nd rfl (Or.inr rfl)) (pgs_cons (pg_name (i := 15) sc_law.nd rfl (Or.inl rfl)) pgs_nil))))
    (pss_cons (ps_if (pt_cmpR (op_neDK K rfl hr.units) (pe_said (k := 9) (q := qL) T B hr (by rfl) rfl rfl rfl rfl (lamP_by (N := n_law) (sc := defScope s_law) (by decide +kernel)) ⟨rfl, (Or.inr ⟨_, _, rfl⟩)⟩ (by exact (by refine bd_one (a := "_law_c") (by intro z; cases z) rfl (fun t u doc pm cl c1 ct => ?_); refine' ⟨_, ?h1, ?h2⟩; (case h1 => exact rfl); (case h2 => exact rfl))) (fun _ _ _ _ _ _ _ hr => by exact (pe_d d_read_standing hr (by decide) rfl (passes_call (takes_of rfl rfl rfl rfl) fun _ _ _ _ h => h) (pa_cons (pv 19) (pa_cons (pv 14) pa_nil))))) (pv 15) (nomark _))
      (pss_one (ps_ret pe_bl))
      pss_nil)
    ht)))))), ?_⟩
  intros
  rename_i c r n p16 st H S V0 f16
  refine nx_ ?_
  refine tup_use (da_cons (de_int _) (da_cons (de_tup (da_cons (de_pair _ _) (da_cons (de_pair _ _) (da_cons (de_pair _ _) da_nil))) (by simp)) (da_cons (de_int _) da_nil))) (by simp) S fun v19 Ha ma d19 => ?_
  refine top_ ?_
  dsimp only
  refine nx_ ?_
  refine dl_lst (da_cons (de_case _ _ _) (da_cons (de_case _ _ _) (da_cons (de_case _ _ _) (da_cons (de_case _ _ _) (da_cons (de_case _ _ _) da_nil))))) (by decide +kernel) ma.s _ fun p1 xs1 H1 m1 n1 e1 a1 => ?_
  refine nx_ ?_
  refine dl_cat (dl_var m1.s rfl n1 e1 a1) (fun _ S' => dl_lst (da_cons (de_case _ _ _) (da_cons (de_case _ _ _) (da_cons (de_case _ _ _) (da_cons (de_case _ _ _) da_nil)))) (by decide +kernel) S') (by decide +kernel) _ fun p2 xs2 H2 m2 n2 e2 a2 => ?_
  refine nx_ ?_
  refine dl_cat (dl_var m2.s rfl n2 e2 a2) (fun _ S' => dl_lst (da_cons (de_case _ _ _) (da_cons (de_case _ _ _) da_nil)) (by decide +kernel) S') (by decide +kernel) _ fun p3 xs3 H3 m3 n3 e3 a3 => ?_
  refine nx_ ?_
  refine ⟨_, rfl, _, rfl, c, r, p3, xs3, rfl, m3.s.row, SqL.of (by rw [hid_ne n3]; exact e3), by rw [DpAll.len a3]; decide, by rw [DpAll.len a3]; decide, fun i v H4 hi e4 row4 => ?_⟩
  obtain ⟨D, hD, dv⟩ := DpAll.get' a3 hi
  obtain ⟨cs, rfl, hl, hg⟩ := case_in stand_cases (show (standCases.map caseOf)[i]? = some D from hD)
  have m4 := m3.s.eqs e4 row4
  obtain ⟨pa, u, rfl, sq, du⟩ := case_inv (m4.dp dv)
  refine ⟨pa, _, rfl, SqT.up (r := r) sq, rfl, _, _, rfl, _, _, rfl, rfl, ?_⟩
  have mt := ((ma.trans m1).trans m2).trans (m3.trans m4)
  have d19' := (m1.trans (m2.trans (m3.trans m4))).dp d19
  dsimp only
  refine nx_ ?_
  refine said_bad (l := cs.2.1) (p := cs.2.2) m4.s (fun H5 Qn E5 m5 bad => ?_) fun t H6 m6 dt => ?_
  · refine ⟨_, rfl, _, rfl, v19, y4, cs.1, rfl, LS.up (m5.dp d19'), vy4, by omega, m5.s.tb, ?_⟩
    rw [errIs_eq hg]
    exact bad
  · refine ⟨_, rfl, _, _, dt, LS.up (m6.dp du), by rfl, by rfl, ?_⟩
    rw [eqv_pair]
    refine ⟨false, rfl, ?_⟩
    exact rd c r n p16 st H6 m6.s V0 ((mt.trans m6).fz f16)
end
end HK
set_option Elab.async false
set_option linter.all false
set_option maxRecDepth 100000
set_option maxHeartbeats 8000000
namespace HK
open PySem PySem.Spec PyProof.Rows L2 SX
section
variable {P : Program} {w : World} {K : PySem.W.Frag} {mg : Str → Option Value} {base : Heap} {d : Ad} {f : Addr} {A : Around} {outer : List Env} {s : Shared} {H0 : Hp} {E : XK}
theorem law_d (T : Tx K mg d) (B : Tbs base mg d) (hr : lawRoom d f A s) (Q : VK) (hQ : ∀ H', Q (.bl true) H') :
    ∃ t, PSs (lawX P w K mg base d f A outer s H0 E) ((defBody s_law).drop 19) t ∧ ∀ {a0 a4 a5 a6 a7 a8 a9 a10 a11 a12 a13 a14 a15 a16 a17 a18 a19 a20 a21 a22 a23 a24 : Option V} (c : Scr) (r : Addr) (y : Yd) (v2 : V) H, LS K d c r H → VY y → Dp K (hid r H) v2 (yardD y) → t (lawD Q) [a0, some (.ref r), some (v2), some (.int y.n), a4, a5, a6, a7, a8, a9, a10, a11, a12, a13, a14, a15, a16, a17, a18, a19, a20, a21, a22, a23, a24] H := by
  have d_law_taken : DK P w K mg base CX0 1 "_law_taken" (spLTaken K) := dk_law_taken T
  have d_law_standing : DK P w K mg base CX0 2 "_law_standing" (spLStand K d) := dk_law_standing T
  have d_law_line : DK P w K mg base CX0 2 "_law_line" (spLLine K d) := dk_law_line T
  have d_law_alike : DK P w K mg base CX0 6 "_law_alike" (spAlike K 4) := dk_law_alike T 4
  have d_write_standing : DK P w K mg base CX0 8 "write_standing" (spWriteStand K d) := dk_write_standing T B
  have d_read_standing : DK P w K mg base (L2.CX P w) 9 "read_standing" (spReadStand K d) := dk_read_standing T B
  obtain ⟨t, ht, rd⟩ := law_e (P := P) (w := w) (outer := outer) (H0 := H0) (E := E) T B hr Q hQ
  refine ⟨_, (pss_cons (ps_set (i := 16) sc_law.nd rfl (Or.inl rfl) (pe_d d_law_standing hr (by decide) rfl pass0 (pa_cons (pv 1) (pa_cons (pv 3) (pa_cons (pe_op op_add pe_int (pe_d d_law_taken hr (by decide) rfl pass0 (pa_cons (pv 1) (pa_cons (pe_callB (call_min2 rfl) (by rfl) T.f_min (by decide +kernel) (pa_cons pe_int (pa_cons (pe_op op_sub (pv 3) pe_int) pa_nil))) pa_nil)))) pa_nil)))))
    (pss_cons (ps_asg (pe_d d_law_line hr (by decide) rfl pass0 (pa_cons (pv 1) (pa_cons (pv 16) pa_nil))) (pg_tupK K rfl (n := 2) (by rfl) (pgs_cons (pg_name (i := 17) sc_law.nd rfl (Or.inl rfl)) (pgs_cons (pg_name (i := 18) sc_law.nd rfl (Or.inl rfl)) pgs_nil))))
    (pss_cons (ps_if (PW.pt (pw_or (pt_cmpR op_ne (pe_d d_write_standing hr (by decide) rfl pass0 (pa_cons (pv 2) (pa_cons (pv 16) pa_nil))) (pv 18) (nomark _)) (pw_or1 (pt_not (pt_val (pe_d d_law_alike hr (by decide) rfl pass0 (pa_cons (pe_d d_read_standing hr (by decide) rfl passL (pa_cons (pv 2) (pa_cons (pv 17) pa_nil))) (pa_cons (pv 16) pa_nil))))))))
      (pss_one (ps_ret pe_bl))
      pss_nil)
    ht))), ?_⟩
  intros
  rename_i c r y v2 H S0 V0 d2
  have hn2 := V0.lo
  have hn7 := V0.hi
  refine nx_ ?_
  have hm : 1 ≤ (if y.n - 1 < 2 then y.n - 1 else 2) ∧ (if y.n - 1 < 2 then y.n - 1 else 2) ≤ y.n - 1 ∧ (if y.n - 1 < 2 then y.n - 1 else 2) ≤ 2 := by
    split <;> omega
  refine ⟨_, rfl, _, rfl, _, rfl, _, rfl, _, _, rfl, rfl, _, _, rfl, c, r, _, rfl, S0.row, hm.1, by omega, fun v1 H1 v10 v11 e1 row1 => ?_⟩
  have m1 := S0.eqs e1 row1
  refine ⟨_, _, rfl, rfl, c, r, y.n, 1 + v1, rfl, m1.s.row, m1.s.tb, hn7, by omega, by omega, fun st v16 H2 V1 mv2 dp16 fz => ?_⟩
  obtain ⟨p16, rfl, f16⟩ := fz
  have m2 := m1.trans (m1.s.mv mv2)
  refine top_ ?_
  dsimp only
  refine nx_ ?_
  refine ⟨_, rfl, _, rfl, c, r, _, y.n, st, rfl, m2.s.row, m2.s.tb, FzT.dp f16, V1, fun t3 p3 H3 hw hl mv3 sq3 => ?_⟩
  have m23 := m2.s.mv mv3
  have m3 := m2.trans m23
  refine ⟨p3, _, rfl, SqT.up (r := r) sq3, rfl, _, _, rfl, _, _, rfl, rfl, ?_⟩
  dsimp only
  refine nx_ ?_
  have f3 := m23.fz f16
  refine ⟨_, rfl, _, rfl, v2, _, y, st, rfl, LS.up (m3.dp d2), V0, LS.up (FzT.dp f3), V1, m3.s.tb, fun H4 g4 => ?_⟩
  have m34 := m3.s.of_go g4
  have m4 := m3.trans m34
  refine ⟨_, rfl, rfl, _, rfl, ?_⟩
  rw [decide_eq_true rfl]
  refine iteF ?_
  refine ⟨_, rfl, _, rfl, v2, y, t3, rfl, LS.up (m4.dp d2), V0, by omega, m4.s.tb, ?_⟩
  rw [hw, readStand_ok V1]
  refine fun H5 v5 g5 d5 => ?_
  have m45 := m4.s.of_go g5
  have m5 := m4.trans m45
  have f5 := m45.fz (m34.fz f3)
  have hl7 := V1.len
  refine ⟨_, rfl, v5, _, standD st, rfl, d5, LS.up (FzT.dp f5), al_stand (by omega), fun H6 sm => ?_⟩
  have m56 := m5.s.same sm
  refine ⟨_, rfl, ?_⟩
  exact rd c r y.n p16 st H6 m56.s V1 (m56.fz f5)
end
end HK
set_option Elab.async false
set_option linter.all false
set_option maxRecDepth 100000
set_option maxHeartbeats 8000000
namespace HK
open PySem PySem.Spec PyProof.Rows L2 SX
section
variable {P : Program} {w : World} {K : PySem.W.Frag} {mg : Str → Option Value} {base : Heap} {d : Ad} {f : Addr} {A : Around} {outer : List Env} {s : Shared} {H0 : Hp} {E : XK}
theorem said_str {c : Scr} {r : Addr} {H : Hp} {σ : L2.St} {te : XK → TE} {Qk : VK} (S0 : LS K d c r H) (h : ∀ H5 Qn E, Lm K d c r H H5 → (∀ H6, Lm K d c r H H6 → E (.ref d.CS) none H6) → te E σ H5 Qn)
    (k : ∀ H6, Lm K d c r H H6 → Qk (.str "string") H6) : tLamD d.pL qL (TSaid d) te σ H Qk :=
  ⟨S0.tabs, fun H5 ke tS => h H5 _ _ (Lm.lam S0 ke tS) fun H6 m6 => Or.inr ⟨rfl, k H6 m6⟩⟩
theorem law_c (T : Tx K mg d) (B : Tbs base mg d) (hr : lawRoom d f A s) (Q : VK) (hQ : ∀ H', Q (.bl true) H') :
    ∃ t, PSs (lawX P w K mg base d f A outer s H0 E) ((defBody s_law).drop 9) t ∧ ∀ {a0 a4 a5 a6 a7 a8 a9 a10 a11 a12 a13 a14 a15 a16 a17 a18 a19 a20 a21 a22 a23 a24 : Option V} (c : Scr) (r : Addr) (y : Yd) (v2 : V) H, LS K d c r H → VY y → Dp K (hid r H) v2 (yardD y) → t (lawD Q) [a0, some (.ref r), some (v2), some (.int y.n), a4, a5, a6, a7, a8, a9, a10, a11, a12, a13, a14, a15, a16, a17, a18, a19, a20, a21, a22, a23, a24] H := by
  have d_law_pick : DK P w K mg base CX0 2 "_law_pick" (spLPick K) := dk_law_pick T
  have d_read_yard : DK P w K mg base (L2.CX P w) 9 "read_yard" (spReadYard K d) := dk_read_yard T B
  obtain ⟨t, ht, rd⟩ := law_d (P := P) (w := w) (outer := outer) (H0 := H0) (E := E) T B hr Q hQ
  refine ⟨_, (pss_cons (ps_set (i := 12) sc_law.nd rfl (Or.inl rfl) pe_str)
    (pss_cons (ps_set (i := 13) sc_law.nd rfl (Or.inl rfl) (pe_lst (pa_cons (pe_tup (pa_cons pe_str (pa_cons (pe_tup (pa_cons pe_int (pa_cons pe_int pa_nil))) pa_nil))) (pa_cons (pe_tup (pa_cons pe_str (pa_cons (pe_tup (pa_cons pe_int (pa_cons pe_int pa_nil))) pa_nil))) (pa_cons (pe_tup (pa_cons pe_str (pa_cons (pe_tup (pa_cons pe_int (pa_cons pe_int pa_nil))) pa_nil))) (pa_cons (pe_tup (pa_cons pe_str (pa_cons (pe_tup (pa_cons pe_int (pa_cons pe_int pa_nil))) pa_nil))) (pa_cons (pe_tup (pa_cons pe_str (pa_cons (pe_tup (pa_cons pe_int (pa_cons pe_int pa_nil))) pa_nil))) pa_nil)))))))
    (pss_cons (ps_set (i := 13) sc_law.nd rfl (Or.inl rfl) (pe_op op_cat (pv 13) (pe_lst (pa_cons (pe_tup (pa_cons (pv 12) (pa_cons (pe_tup (pa_cons pe_int (pa_cons pe_int pa_nil))) pa_nil))) (pa_cons (pe_tup (pa_cons (pe_op op_add_str (pv 12) pe_str) (pa_cons (pe_tup (pa_cons pe_int (pa_cons pe_int pa_nil))) pa_nil))) (pa_cons (pe_tup (pa_cons (pe_op op_add_str (pv 12) pe_str) (pa_cons (pe_tup (pa_cons pe_int (pa_cons pe_int pa_nil))) pa_nil))) pa_nil))))))
    (pss_cons (ps_set (i := 13) sc_law.nd rfl (Or.inl rfl) (pe_op op_cat (pv 13) (pe_lst (pa_cons (pe_tup (pa_cons (pe_op op_add_str (pv 12) pe_str) (pa_cons (pe_tup (pa_cons pe_int (pa_cons pe_int pa_nil))) pa_nil))) (pa_cons (pe_tup (pa_cons (pe_op op_add_str (pv 12) pe_str) (pa_cons (pe_tup (pa_cons pe_int (pa_cons pe_int pa_nil))) pa_nil))) pa_nil)))))
    (pss_cons (ps_set (i := 13) sc_law.nd rfl (Or.inl rfl) (pe_op op_cat (pv 13) (pe_lst (pa_cons (pe_tup (pa_cons (pe_op op_add_str (pv 12) pe_str) (pa_cons (pe_tup (pa_cons pe_int (pa_cons pe_int pa_nil))) pa_nil))) (pa_cons (pe_tup (pa_cons (pe_op op_add_str (pv 12) pe_str) (pa_cons (pe_tup (pa_cons pe_int (pa_cons pe_int pa_nil))) pa_nil))) (pa_cons (pe_tup (pa_cons (pe_op op_add_str (pv 12) pe_str) (pa_cons (pe_tup (pa_cons pe_int (pa_cons pe_int pa_nil))) pa_nil))) pa_nil))))))
    (pss_cons (ps_set (i := 13) sc_law.nd rfl (Or.inl rfl) (pe_op op_cat (pv 13) (pe_lst (pa_cons (pe_tup (pa_cons (pe_op op_add_str (pv 12) pe_str) (pa_cons (pe_tup (pa_cons pe_int (pa_cons pe_int pa_nil))) pa_nil))) (pa_cons (pe_tup (pa_cons pe_str (pa_cons (pe_tup (pa_cons pe_int (pa_cons pe_int pa_nil))) pa_nil))) pa_nil)))))
    (pss_cons (ps_set (i := 13) sc_law.nd rfl (Or.inl rfl) (pe_op op_cat (pv 13) (pe_lst (pa_cons (pe_tup (pa_cons pe_str (pa_cons (pe_tup (pa_cons pe_int (pa_cons pe_int pa_nil))) pa_nil))) (pa_cons (pe_tup (pa_cons pe_str (pa_cons (pe_tup (pa_cons pe_int (pa_cons pe_int pa_nil))) pa_nil))) pa_nil)))))
    (pss_cons (ps_asg (pe_d d_law_pick hr (by decide) rfl pass0 (pa_cons (pv 1) (pa_cons (pv 13) pa_nil))) (pg_tupK K rfl (n := 2) (by rfl) (pgs_cons (pg_name (i := 14) sc_law.nd rfl (Or.inr rfl)) (pgs_cons (pg_name (i := 15) sc_law.nd rfl (Or.inl rfl)) pgs_nil))))
    (pss_cons (ps_if (pt_cmpR (op_neDK K rfl hr.units) (pe_said (k := 9) (q := qL) T B hr (by rfl) rfl rfl rfl rfl (lamP_by (N := n_law) (sc := defScope s_law) (by decide +kernel)) ⟨rfl, (Or.inr ⟨_, _, rfl⟩)⟩ (by exact (by refine bd_one (a := "_law_a") (by intro z; cases z) rfl (fun t u doc pm cl c1 ct => ?_); refine' ⟨_, ?h1, ?h2⟩; (case h1 => exact rfl); (case h2 => exact rfl))) (fun _ _ _ _ _ _ _ hr => by exact (pe_d d_read_yard hr (by decide) rfl (passes_call (takes_of rfl rfl rfl rfl) fun _ _ _ _ h => h) (pa_cons (pv 14) pa_nil)))) (pv 15) (nomark _))
      (pss_one (ps_ret pe_bl))
      pss_nil)
    (pss_cons (ps_if (pt_cmpR op_ne (pe_said (k := 9) (q := qL) T B hr (by rfl) rfl rfl rfl rfl (lamP_by (N := n_law) (sc := defScope s_law) (by decide +kernel)) ⟨rfl, (Or.inr ⟨_, _, rfl⟩)⟩ (by exact (by refine bd_one (a := "_law_b") (by intro z; cases z) rfl (fun t u doc pm cl c1 ct => ?_); refine' ⟨_, ?h1, ?h2⟩; (case h1 => exact rfl); (case h2 => exact rfl))) (fun _ _ _ _ _ _ _ hr => by exact (pe_d d_read_yard hr (by decide) rfl (passes_call (takes_of rfl rfl rfl rfl) fun _ _ _ _ h => h) (pa_cons pe_non pa_nil)))) pe_str (nomark _))
      (pss_one (ps_ret pe_bl))
      pss_nil)
    ht)))))))))), ?_⟩
  intros
  rename_i c r y v2 H S0 V0 d2
  refine nx_ ?_
  refine top_ ?_
  dsimp only
  refine nx_ ?_
  refine dl_lst (da_cons (de_case _ _ _) (da_cons (de_case _ _ _) (da_cons (de_case _ _ _) (da_cons (de_case _ _ _) (da_cons (de_case _ _ _) da_nil))))) (by decide +kernel) S0 _ fun p1 xs1 H1 m1 n1 e1 a1 => ?_
  refine top_ ?_
  dsimp only
  refine nx_ ?_
  refine dl_cat (dl_var m1.s rfl n1 e1 a1) (fun _ S' => dl_lst (da_cons (de_caseV _ _ _ rfl) (da_cons (de_caseA _ _ _ _ rfl (by decide +kernel)) (da_cons (de_caseA _ _ _ _ rfl (by decide +kernel)) da_nil))) (by decide +kernel) S') (by decide +kernel) _ fun p2 xs2 H2 m2 n2 e2 a2 => ?_
  refine top_ ?_
  dsimp only
  refine nx_ ?_
  refine dl_cat (dl_var m2.s rfl n2 e2 a2) (fun _ S' => dl_lst (da_cons (de_caseA _ _ _ _ rfl (by decide +kernel)) (da_cons (de_caseA _ _ _ _ rfl (by decide +kernel)) da_nil)) (by decide +kernel) S') (by decide +kernel) _ fun p3 xs3 H3 m3 n3 e3 a3 => ?_
  refine top_ ?_
  dsimp only
  refine nx_ ?_
  refine dl_cat (dl_var m3.s rfl n3 e3 a3) (fun _ S' => dl_lst (da_cons (de_caseA _ _ _ _ rfl (by decide +kernel)) (da_cons (de_caseA _ _ _ _ rfl (by decide +kernel)) (da_cons (de_caseA _ _ _ _ rfl (by decide +kernel)) da_nil))) (by decide +kernel) S') (by decide +kernel) _ fun p4 xs4 H4 m4 n4 e4 a4 => ?_
  refine top_ ?_
  dsimp only
  refine nx_ ?_
  refine dl_cat (dl_var m4.s rfl n4 e4 a4) (fun _ S' => dl_lst (da_cons (de_caseA _ _ _ _ rfl (by decide +kernel)) (da_cons (de_case _ _ _) da_nil)) (by decide +kernel) S') (by decide +kernel) _ fun p5 xs5 H5 m5 n5 e5 a5 => ?_
  refine top_ ?_
  dsimp only
  refine nx_ ?_
  refine dl_cat (dl_var m5.s rfl n5 e5 a5) (fun _ S' => dl_lst (da_cons (de_case _ _ _) (da_cons (de_case _ _ _) da_nil)) (by decide +kernel) S') (by decide +kernel) _ fun p6 xs6 H6 m6 n6 e6 a6 => ?_
  refine top_ ?_
  dsimp only
  refine nx_ ?_
  refine ⟨_, rfl, _, rfl, c, r, p6, xs6, rfl, m6.s.row, SqL.of (by rw [hid_ne n6]; exact e6), by rw [DpAll.len a6]; decide, by rw [DpAll.len a6]; decide, fun i v H7 hi e7 row7 => ?_⟩
  obtain ⟨D, hD, dv⟩ := DpAll.get' a6 hi
  obtain ⟨cs, rfl, hl, hg⟩ := case_in yard_cases (show (yardCases.map caseOf)[i]? = some D from hD)
  have m7 := m6.s.eqs e7 row7
  obtain ⟨pa, u, rfl, sq, du⟩ := case_inv (m7.dp dv)
  refine ⟨pa, _, rfl, SqT.up (r := r) sq, rfl, _, _, rfl, _, _, rfl, rfl, ?_⟩
  have mt := ((((m1.trans m2).trans m3).trans m4).trans m5).trans (m6.trans m7)
  have d27 := mt.dp d2
  dsimp only
  refine nx_ ?_
  refine said_bad (l := cs.2.1) (p := cs.2.2) m7.s (fun H8 Qn E8 m8 bad => ?_) fun t8 H8 m8 dt => ?_
  · refine ⟨_, rfl, m8.s.tb, Or.inl ⟨cs.1, rfl, by omega, ?_⟩⟩
    rw [yardIs_eq hg]
    exact bad
  · refine ⟨_, rfl, _, _, dt, LS.up (m8.dp du), by rfl, by rfl, ?_⟩
    rw [eqv_pair]
    refine ⟨false, rfl, ?_⟩
    have d28 := m8.dp d27
    refine iteF ?_
    refine nx_ ?_
    refine said_str m8.s (fun H9 Qn E9 m9 bad => ?_) fun H9 m9 => ?_
    · exact ⟨m9.s.tb, Or.inr ⟨rfl, bad _ m9⟩⟩
    · refine ⟨rfl, _, rfl, ?_⟩
      rw [decide_eq_true rfl]
      refine iteF ?_
      exact rd c r y v2 H9 m9.s V0 (m9.dp d28)
end
end HK
set_option Elab.async false
set_option linter.all false
set_option maxRecDepth 100000
set_option maxHeartbeats 8000000
namespace HK
open PySem PySem.Spec PyProof.Rows L2 SX
def yardWords : List (List Nat) := [kPlaces, kTie, kGate, [48], [49], [51], [56], [48, 49], [120]]
theorem rws_yard {y : Yd} (v : VY y) : RwS (yardRows y) := by
  have few := vy_few v
  have hn1 := v.lo
  have hn2 := v.hi
  have hg1 := v.g0
  have hg2 := v.g1
  have wds : ∀ w ∈ [kPlaces, kTie, kGate], Wd w ∧ w.length ≤ 9 := by unfold Wd; decide
  have key : ∀ r ∈ yardRows y, Rw r ∧ r.length ≤ 4 ∧ ∀ w ∈ r, w.length ≤ 9 := fun r hr => by
    have one : ∀ (k : List Nat) (n : Int), k ∈ [kPlaces, kTie, kGate] → n.natAbs < 100000000 → Rw [k, intL n] ∧ ([k, intL n] : List (List Nat)).length ≤ 4 ∧ ∀ w ∈ [k, intL n], w.length ≤ 9 := fun k n hk hn => by
      refine ⟨⟨by simp, fun w hw => ?_⟩, by simp, fun w hw => ?_⟩
      · rcases List.mem_cons.mp hw with rfl | hw
        · exact (wds _ hk).1
        · rw [List.mem_singleton.mp hw]
          exact intL_wd n
      · rcases List.mem_cons.mp hw with rfl | hw
        · exact (wds _ hk).2
        · rw [List.mem_singleton.mp hw]
          exact intL_len hn
    unfold yardRows at hr
    rcases List.mem_cons.mp hr with rfl | hr
    · exact one _ _ (by simp) (by omega)
    rcases List.mem_append.mp hr with hr | hr
    · obtain ⟨t, ht, rfl⟩ := List.mem_map.mp hr
      have tok := v.tie t ht
      unfold TieOk at tok
      refine ⟨⟨by simp [tieRow], fun w hw => ?_⟩, by simp [tieRow], fun w hw => ?_⟩
      · unfold tieRow at hw
        rcases List.mem_cons.mp hw with rfl | hw
        · exact (wds _ (by simp)).1
        rcases List.mem_cons.mp hw with rfl | hw
        · exact intL_wd _
        rw [List.mem_singleton.mp hw]
        exact intL_wd _
      · unfold tieRow at hw
        rcases List.mem_cons.mp hw with rfl | hw
        · exact (wds _ (by simp)).2
        rcases List.mem_cons.mp hw with rfl | hw
        · exact intL_len (by omega)
        rw [List.mem_singleton.mp hw]
        exact intL_len (by omega)
    · rw [List.mem_singleton.mp hr]
      exact one _ _ (by simp) (by omega)
  refine ⟨by simp [yardRows], by rw [yardRows_count]; omega, fun r hr => (key r hr).1, fun r hr => (key r hr).2.1, fun r hr => (key r hr).2.2⟩
section
variable {P : Program} {w : World} {K : PySem.W.Frag} {mg : Str → Option Value} {base : Heap} {d : Ad} {f : Addr} {A : Around} {outer : List Env} {s : Shared} {H0 : Hp} {E : XK}
theorem law_b (T : Tx K mg d) (B : Tbs base mg d) (hr : lawRoom d f A s) (Q : VK) (hQ : ∀ H', Q (.bl true) H') :
    ∃ t, PSs (lawX P w K mg base d f A outer s H0 E) ((defBody s_law).drop 6) t ∧ ∀ {a0 a4 a5 a6 a8 a9 a10 a11 a12 a13 a14 a15 a16 a17 a18 a19 a20 a21 a22 a23 a24 : Option V} (c : Scr) (r : Addr) (y : Yd) (v2 : V) H, LS K d c r H → VY y → Dp K (hid r H) v2 (yardD y) → t (lawD Q) [a0, some (.ref r), some (v2), some (.int y.n), a4, a5, a6, some (.str (S (yardText y))), a8, a9, a10, a11, a12, a13, a14, a15, a16, a17, a18, a19, a20, a21, a22, a23, a24] H := by
  have d_law_bent : DK P w K mg base CX0 3 "_law_bent" (spLBent K d) := dk_law_bent T
  have d_write_yard : DK P w K mg base CX0 8 "write_yard" (spWriteYard K d) := dk_write_yard T B
  have d_read_yard : DK P w K mg base (L2.CX P w) 9 "read_yard" (spReadYard K d) := dk_read_yard T B
  obtain ⟨t, ht, rd⟩ := law_c (P := P) (w := w) (outer := outer) (H0 := H0) (E := E) T B hr Q hQ
  refine ⟨_, (pss_cons (ps_asg (pe_d d_law_bent hr (by decide) rfl pass0 (pa_cons (pv 1) (pa_cons (pv 7) (pa_cons (pe_lst (pa_cons pe_str (pa_cons pe_str (pa_cons pe_str (pa_cons pe_str (pa_cons pe_str (pa_cons pe_str (pa_cons pe_str (pa_cons pe_str (pa_cons pe_str pa_nil)))))))))) pa_nil)))) (pg_tupK K rfl (n := 3) (by rfl) (pgs_cons (pg_name (i := 8) sc_law.nd rfl (Or.inr rfl)) (pgs_cons (pg_name (i := 9) sc_law.nd rfl (Or.inl rfl)) (pgs_cons (pg_name (i := 10) sc_law.nd rfl (Or.inl rfl)) pgs_nil)))))
    (pss_cons (ps_set (i := 11) sc_law.nd rfl (Or.inl rfl) (pe_said (k := 9) (q := qL) T B hr (by rfl) rfl rfl rfl rfl (lamP_by (N := n_law) (sc := defScope s_law) (by decide +kernel)) ⟨rfl, (Or.inl rfl)⟩ (by exact (bd_none rfl fun _ _ _ _ _ => rfl)) (fun _ _ _ _ _ _ _ hr => by exact (pe_d d_read_yard hr (by decide) rfl (passes_call (takes_of rfl rfl rfl rfl) fun _ _ _ _ h => h) (pa_cons (pv 8) pa_nil)))))
    (pss_cons (ps_if (PW.pt (pw_and (pt_cmpR op_isN (pv 11) pe_non (nomark _)) (pw_and1 (pt_cmpR op_ne (pe_d d_write_yard hr (by decide) rfl pass0 (pa_cons (pe_d d_read_yard hr (by decide) rfl passL (pa_cons (pv 8) pa_nil)) pa_nil)) (pv 8) (nomark _)))))
      (pss_one (ps_ret pe_bl))
      pss_nil)
    ht))), ?_⟩
  intros
  rename_i c r y v2 H S0 V0 d2
  refine nx_ ?_
  refine ⟨_, rfl, _, rfl, ?_⟩
  refine dl_lst (da_cons (de_str _) (da_cons (de_str _) (da_cons (de_str _) (da_cons (de_str _) (da_cons (de_str _) (da_cons (de_str _) (da_cons (de_str _) (da_cons (de_str _) (da_cons (de_str _) da_nil))))))))) (by decide +kernel) S0 _ fun pw xs H1 m1 n1 e1 a1 => ?_
  have ex := strs_inv (ws := yardWords) a1
  subst ex
  have RS := rws_yard V0
  refine ⟨c, r, pw, yardRows y, yardWords, rfl, m1.s.row, m1.s.tb, RS, SqL.of (by rw [hid_ne n1]; exact e1), by decide, by decide, by decide, fun k row j z pt H2 hk hj hz mv sq => ?_⟩
  have m12 := m1.s.mv mv
  have m2 := m1.trans m12
  have wz : Wd z ∧ z.length ≤ 9 := (show ∀ z ∈ yardWords, Wd z ∧ z.length ≤ 9 by unfold Wd; decide) z hz
  have RB := bent_len (j := j) RS hk wz.1 wz.2
  refine ⟨pt, _, rfl, SqT.up (r := r) sq, rfl, _, _, rfl, _, _, rfl, _, _, rfl, rfl, ?_⟩
  dsimp only
  refine nx_ ?_
  have tl := RB.text
  cases hR : readYardL (textL ((yardRows y).set k (row.set j z))) with
  | error e =>
    refine said_bad (l := e.1) (p := e.2) m2.s (fun H5 Qn E5 m5 bad => ?_) fun tt H6 m6 dt => ?_
    · refine ⟨_, rfl, m5.s.tb, Or.inl ⟨_, rfl, by omega, ?_⟩⟩
      rw [hR]
      exact bad
    · dsimp only
      refine nx_ ?_
      refine ⟨_, rfl, rfl, _, rfl, ?_⟩
      rw [decide_eq_false (fun y => by cases y)]
      refine iteF (iteF ?_)
      exact rd c r y v2 H6 m6.s V0 ((m2.trans m6).dp d2)
  | ok y' =>
    refine said_none m2.s (fun H5 E5 Qn m5 q => ?_) fun H6 m6 => ?_
    · refine ⟨_, rfl, m5.s.tb, Or.inl ⟨_, rfl, by omega, ?_⟩⟩
      rw [hR]
      exact fun H6 v g6 _ => q v H6 (m5.trans (m5.s.of_go g6))
    · refine nx_ ?_
      obtain ⟨vy, hw⟩ := readYard_some hR
      rw [lines_fst RB] at hw
      refine ⟨_, rfl, rfl, _, rfl, ?_⟩
      rw [decide_eq_true rfl]
      refine iteT ?_
      refine ⟨_, rfl, m6.s.tb, Or.inl ⟨_, rfl, by omega, ?_⟩⟩
      rw [hR]
      refine fun H7 v7 g7 d7 => ?_
      have m7 := m6.s.of_go g7
      refine ⟨v7, y', rfl, d7, vy, m7.s.tb, fun H8 g8 => ?_⟩
      have m8 := m7.s.of_go g8
      refine ⟨_, rfl, rfl, _, rfl, ?_⟩
      rw [show yardText y' = textL ((yardRows y).set k (row.set j z)) from congrArg textL hw.symm, decide_eq_true rfl]
      refine iteF ?_
      exact rd c r y v2 H8 m8.s V0 ((((m2.trans m6).trans m7).trans m8).dp d2)
end
end HK
set_option Elab.async false
set_option linter.all false
set_option maxRecDepth 100000
set_option maxHeartbeats 8000000
namespace HK
open PySem PySem.Spec PyProof.Rows L2 SX
theorem tabS_nil {H : Hp} {P : Addr} {q : Str} (h : H P = some (.tbl #[])) : LamX.TabS H P q := ⟨#[], h, trivial, fun pos cv hc => by cases hc⟩
theorem sq_ne {K : PySem.W.Frag} {H : Hp} {a r : Addr} {xs : List V} (h : SqL K H a xs) (n : H r = none) (k : K.lookup r = none) : a ≠ r := fun z => by
  rw [z] at h
  rcases h with (h | ⟨o, h⟩) | ⟨o, its, m, h, _⟩
  · rw [n] at h
    cases h
  · rw [n] at h
    cases h
  · rw [k] at h
    cases h
section
variable {P : Program} {w : World} {K : PySem.W.Frag} {mg : Str → Option Value} {base : Heap} {d : Ad} {f : Addr} {A : Around} {outer : List Env} {s : Shared} {H0 : Hp} {E : XK}
theorem law_a (T : Tx K mg d) (B : Tbs base mg d) (hr : lawRoom d f A s) (a : Addr) (ns : List Int) (Q : VK) (hQ : ∀ H', Q (.bl true) H') (np : d.pL ∉ d.T) (h63 : ns.length ≤ 63) (tb0 : Tb d.T H0) (tl0 : H0 d.pL = some (.tbl #[])) (sq0 : SqL K H0 a (ns.map V.int)) :
    ∃ t, PSs (lawX P w K mg base d f A outer s H0 E) (defBody s_law) t ∧ t (lawD Q) (start n_law [.ref a]) H0 := by
  have d_law_yard : DK P w K mg base CX0 3 "_law_yard" (spLYard K d) := dk_law_yard T
  have d_law_loose : DK P w K mg base CX0 2 "_law_loose" (spLLoose K d) := dk_law_loose T
  have d_law_alike : DK P w K mg base CX0 6 "_law_alike" (spAlike K 4) := dk_law_alike T 4
  have d_write_yard : DK P w K mg base CX0 8 "write_yard" (spWriteYard K d) := dk_write_yard T B
  have d_read_yard : DK P w K mg base (L2.CX P w) 9 "read_yard" (spReadYard K d) := dk_read_yard T B
  obtain ⟨t, ht, rd⟩ := law_b (P := P) (w := w) (outer := outer) (H0 := H0) (E := E) T B hr Q hQ
  refine ⟨_, (pss_cons (ps_set (i := 1) sc_law.nd rfl (Or.inl rfl) (pe_lstK K rfl (pa_cons (pv 0) (pa_cons pe_int (pa_cons pe_int (pa_cons pe_int pa_nil))))))
    (pss_cons (ps_set (i := 2) sc_law.nd rfl (Or.inl rfl) (pe_d d_law_yard hr (by decide) rfl pass0 (pa_cons (pv 1) (pa_cons pe_int pa_nil))))
    (pss_cons (ps_asg (pv 2) (pg_tupK K rfl (n := 3) (by rfl) (pgs_cons (pg_name (i := 3) sc_law.nd rfl (Or.inl rfl)) (pgs_cons (pg_name (i := 4) sc_law.nd rfl (Or.inl rfl)) (pgs_cons (pg_name (i := 5) sc_law.nd rfl (Or.inl rfl)) pgs_nil)))))
    (pss_cons (ps_set (i := 6) sc_law.nd rfl (Or.inl rfl) (pe_op op_cat (pe_lst (pa_cons (pe_op op_add_str pe_str (pe_callTy call_str_int (by rfl) T.f_str (by decide +kernel) (pa_cons (pv 3) pa_nil))) pa_nil)) (by exact (pe_lc (own := [("_law_one", 22), ("_law_other", 23)]) (by rfl) sc_law.nd (pi_tupK K rfl (pv 4)) (blkOk_by (own := [("_law_one", 22), ("_law_other", 23)]) (N := n_law) (sc := defScope s_law) (by decide +kernel)) (fun _ _ _ _ _ => by exact (pg_tupK K rfl (n := 2) (by rfl) (pgs_cons (pg_name (i := 22) sc_law.nd rfl (Or.inl rfl)) (pgs_cons (pg_name (i := 23) sc_law.nd rfl (Or.inl rfl)) pgs_nil)))) (fun _ _ _ _ _ => by exact pts_nil) (fun _ _ _ _ _ => by exact (pe_op op_add_str (pe_op op_add_str (pe_op op_add_str pe_str (pe_callTy call_str_int (by rfl) T.f_str (by decide +kernel) (pa_cons (pv 22) pa_nil))) pe_str) (pe_callTy call_str_int (by rfl) T.f_str (by decide +kernel) (pa_cons (pv 23) pa_nil))))))))
    (pss_cons (ps_set (i := 7) sc_law.nd rfl (Or.inl rfl) (pe_joinK K rfl pe_str (pe_op op_cat (pv 6) (pe_lst (pa_cons (pe_op op_add_str pe_str (pe_callTy call_str_int (by rfl) T.f_str (by decide +kernel) (pa_cons (pv 5) pa_nil))) pa_nil)))))
    (pss_cons (ps_if (PW.pt (pw_or (pt_cmpR op_ne (pe_d d_write_yard hr (by decide) rfl pass0 (pa_cons (pv 2) pa_nil)) (pv 7) (nomark _)) (pw_or1 (pt_not (pt_val (pe_d d_law_alike hr (by decide) rfl pass0 (pa_cons (pe_d d_read_yard hr (by decide) rfl passL (pa_cons (pe_d d_law_loose hr (by decide) rfl pass0 (pa_cons (pv 1) (pa_cons (pv 7) pa_nil))) pa_nil)) (pa_cons (pv 2) pa_nil))))))))
      (pss_one (ps_ret pe_bl))
      pss_nil)
    ht)))))), ?_⟩
  refine nx_ ?_
  refine ⟨_, rfl, (show (4 : Nat) ≤ sizeLine by decide), fun r nr kr => ?_⟩
  have hid1 : hid r (upd H0 r (.lst [.ref a, .int 0, .int 7814, .int 0])) = H0 := hid_upd.trans (hid_none nr)
  have S0 : LS K d ⟨a, ns⟩ r (upd H0 r (.lst [.ref a, .int 0, .int 7814, .int 0])) :=
    ⟨⟨row_mk (c := ⟨a, ns⟩) (by decide), by rw [hid1]; exact sq0, sq_ne sq0 nr kr, h63⟩, (Go.new tb0 nr).t1, by rw [hid1]; exact tabS_nil tl0, np⟩
  generalize upd H0 r (.lst [.ref a, .int 0, .int 7814, .int 0]) = H1 at S0 ⊢
  refine top_ ?_
  dsimp only
  refine nx_ ?_
  refine ⟨_, rfl, ⟨a, ns⟩, r, rfl, S0.row, S0.tb, fun y v2 H2 V0 mv2 d2 => ?_⟩
  have m2 := S0.mv mv2
  have few := vy_few V0
  have hn1 := V0.lo
  have hn2 := V0.hi
  have hg1 := V0.g0
  have hg2 := V0.g1
  have kp : ("places " : Str).length = 7 := by decide +kernel
  have kg : ("gate " : Str).length = 5 := by decide +kernel
  have hz := sizeLine_eq
  have hl1 := int_len (n := y.n) (by omega)
  have hl2 := int_len (n := y.gate) (by omega)
  obtain ⟨p2, v4, rfl, sq2, d4⟩ := Dp.yard_inv d2
  obtain ⟨a2, xs, rfl, hxs, hall⟩ := Dp.tup_inv d4
  have xlen : xs.length = y.ties.length := by
    have := DpAll.len hall
    simpa using this
  refine top_ ?_
  dsimp only
  refine nx_ ?_
  refine ⟨_, rfl, p2, _, rfl, SqT.up (r := r) sq2, rfl, _, _, rfl, _, _, rfl, _, _, rfl, rfl, ?_⟩
  dsimp only
  refine nx_ ?_
  refine ⟨_, rfl, y.n, rfl, int_log (by omega), _, _, rfl, rfl, by rw [kp]; omega, (show (1 : Nat) ≤ sizeLine by decide), fun p6 n6 => ?_⟩
  have m23 := m2.s.put n6 (o := .lst [.str (("places " : Str) ++ Str.ofString (toString y.n))])
  have e6 : (upd H2 p6 (.lst [.str (("places " : Str) ++ Str.ofString (toString y.n))])) p6 = some (.lst [.str (("places " : Str) ++ Str.ofString (toString y.n))]) := upd_same
  have r6 := m2.s.row.row.ne n6
  generalize upd H2 p6 (.lst [.str (("places " : Str) ++ Str.ofString (toString y.n))]) = H3 at m23 e6 ⊢
  have hx3 : SqT K H3 a2 xs := SqT.up (r := r) (m23.go.st hxs)
  have hall3 : DpAll K H3 xs (y.ties.map tieD) := DpAll.go (go_r (r := r)) (m23.all hall)
  refine ⟨_, rfl, a2, rfl, ⟨_, hx3⟩, fun D nD => ?_⟩
  refine lc_val (walk_tup (xs := xs)) m23.s.tb nD (fun H' g => g.st hx3) yat_same (by omega) (fun i => (y.ties[i]?).bind fun t => some (wV (rowL (tieRow t)))) (fun i x H' H'' Post hi go hy gy hp => ?_) (fun H4 g4 e4 => ?_)
  · obtain ⟨rfl, hx⟩ := hy
    obtain ⟨dd, e1, e2⟩ := DpAll.get' hall3 hx
    rw [List.getElem?_map] at e1
    cases et : y.ties[i]? with
    | none => rw [et] at e1; cases e1
    | some t =>
      rw [et] at e1
      have e3 : dd = tieD t := (Option.some.inj e1).symm
      subst e3
      obtain ⟨b, rfl, hb⟩ := Dp.pair_inv e2
      have hb3 := go.st hb
      have hp' := hp H'' (Go.refl go.t1)
      rw [et] at hp'
      have tok := V0.tie t (List.mem_of_getElem? et)
      unfold TieOk at tok
      refine ⟨b, _, rfl, hb3, rfl, _, _, rfl, _, _, rfl, rfl, rfl, ?_⟩
      refine yes_ ?_
      refine tie_elt (i := 22) (j := 23) (a := t.1) (b := t.2) rfl rfl (by omega) (by omega) ?_
      exact hp'
  · rw [xlen, range_get, map_filterMap_some] at e4
    have m34 := m23.s.of_go g4
    have e64 := g4.lst e6
    have rD := m23.s.row.row.ne nD
    refine ⟨p6, D, _, _, rfl, rfl, e64, e4, by rw [List.length_map]; simp; omega, fun p7 n7 => ?_⟩
    have m45 := m34.s.put n7 (o := .lst ([.str (("places " : Str) ++ Str.ofString (toString y.n))] ++ y.ties.map fun t => wV (rowL (tieRow t))))
    have e7 : (upd H4 p7 (.lst ([.str (("places " : Str) ++ Str.ofString (toString y.n))] ++ y.ties.map fun t => wV (rowL (tieRow t))))) p7 = some (.lst ([.str (("places " : Str) ++ Str.ofString (toString y.n))] ++ y.ties.map fun t => wV (rowL (tieRow t)))) := upd_same
    have r7 := m34.s.row.row.ne n7
    generalize upd H4 p7 (.lst ([.str (("places " : Str) ++ Str.ofString (toString y.n))] ++ y.ties.map fun t => wV (rowL (tieRow t)))) = H5 at m45 e7 ⊢
    have d25 := m45.dp (m34.dp (m23.dp d2))
    have m5 := m45.s
    refine top_ ?_
    dsimp only
    refine nx_ ?_
    refine ⟨⟨_, rfl⟩, _, rfl, _, rfl, y.gate, rfl, int_log (by omega), _, _, rfl, rfl, by rw [kg]; omega, (show (1 : Nat) ≤ sizeLine by decide), fun p8 n8 => ?_⟩
    have m56 := m5.put n8 (o := .lst [.str (("gate " : Str) ++ Str.ofString (toString y.gate))])
    have h78 : p7 ≠ p8 := ne_of_none e7 n8
    refine ⟨p7, p8, _, _, rfl, rfl, by rw [upd_ne h78]; exact e7, upd_same, by simp; omega, fun p9 n9 => ?_⟩
    have m67 := m56.s.put n9 (o := .lst (([.str (("places " : Str) ++ Str.ofString (toString y.n))] ++ y.ties.map fun t => wV (rowL (tieRow t))) ++ [.str (("gate " : Str) ++ Str.ofString (toString y.gate))]))
    refine join_rows (rows := yardRows y) (SqL.of ?_) (fun r hr => by have := yardRows_len V0 hr; omega) (by rw [yardRows_count]; omega) ?_
    · rw [upd_same]
      congr 2
      rw [t_places, t_gate]
      unfold yardRows wV
      simp [List.map_append, Function.comp_def, wV]
    have d27 := m67.dp (m56.dp d25)
    have S7 := m67.s
    generalize upd (upd H5 p8 (.lst [.str (("gate " : Str) ++ Str.ofString (toString y.gate))])) p9 (.lst (([.str (("places " : Str) ++ Str.ofString (toString y.n))] ++ y.ties.map fun t => wV (rowL (tieRow t))) ++ [.str (("gate " : Str) ++ Str.ofString (toString y.gate))])) = H7 at d27 S7 ⊢
    refine top_ ?_
    dsimp only
    refine nx_ ?_
    refine ⟨_, rfl, _, y, rfl, LS.up d27, V0, S7.tb, fun H8 g8 => ?_⟩
    have m8 := S7.of_go g8
    refine ⟨_, rfl, rfl, _, rfl, ?_⟩
    rw [show S (textL (yardRows y)) = S (yardText y) from rfl, decide_eq_true rfl]
    refine iteF ?_
    refine ⟨_, rfl, _, rfl, ⟨a, ns⟩, r, yardRows y, rfl, m8.s.row, m8.s.tb, rws_yard V0, fun t9 H9 ht hl mv9 => ?_⟩
    have m89 := m8.s.mv mv9
    refine ⟨m89.s.tb, Or.inl ⟨t9, rfl, hl, ?_⟩⟩
    rw [readYard_ok V0 ht]
    refine fun H10 v10 g10 d10 => ?_
    have m910 := m89.s.of_go g10
    have d2x := m910.dp (m89.dp (m8.dp d27))
    refine ⟨_, rfl, v10, _, yardD y, rfl, d10, LS.up d2x, al_yard V0, fun H11 sm => ?_⟩
    have m11 := m910.s.same sm
    refine ⟨_, rfl, ?_⟩
    exact rd ⟨a, ns⟩ r y _ H11 m11.s V0 (m11.dp d2x)
end
end HK
set_option Elab.async false
set_option linter.all false
set_option maxRecDepth 100000
set_option maxHeartbeats 8000000
namespace HK
open PySem PySem.Spec PyProof.Rows L2 SX
section
variable {P : Program} {w : World} {K : PySem.W.Frag} {mg : Str → Option Value} {base : Heap} {d : Ad}
def spLaw (K : PySem.W.Frag) (d : Ad) : Sp := fun vs H Q _ => ∃ (a : Addr) (ns : List Int), vs = [.ref a] ∧ SqL K H a (ns.map V.int) ∧ ns.length ≤ 63 ∧ Tb d.T H ∧ H d.pL = some (.tbl #[]) ∧ ∀ H', Q (.bl true) H'
theorem dk_law (T : Tx K mg d) (B : Tbs base mg d) (np : d.pL ∉ d.T) : DK P w K mg base (L2.CX P w) 12 "law" (spLaw K d) := by
  refine T.d_law.dkX sc_law (fun vs H Q E h => ?_) fun f A outer s H vs Q E hr h => ?_
  · obtain ⟨_, _, rfl, _⟩ := h
    rfl
  · obtain ⟨a, ns, rfl, sq, h63, tb, tl, hQ⟩ := h
    exact law_a T B hr a ns Q hQ np h63 tb tl sq
end
end HK
set_option Elab.async false
set_option linter.all false
set_option maxRecDepth 100000
set_option maxHeartbeats 2000000
/-! What the top has left, read by a hook: the functions, their code objects (never the tables behind them), the classes. Printed by mkhead.py. -/
namespace HK
open PySem PySem.Spec PyProof.Rows L2 SX He
/-- what an object names, tables left out -/
def nmO (o : Obj) : List Addr := refV o.cls ++ (match o.data with
  | .dict es _ => es.toList.flatMap (fun e => refV e.val)
  | .func fd => refV fd.code
  | .cls cd => cd.ns :: cd.mro.flatMap refV
  | _ => [])
def stepN (g : Addr → Option Obj) (as : List Addr) : List Addr := (as ++ as.flatMap (fun a => (g a).elim [] nmO)).eraseDups
def reachN (g : Addr → Option Obj) : Nat → List Addr
  | 0 => [mainGlobals]
  | n + 1 => stepN g (reachN g n)
/-- an own class over ValueError, with a dict -/
def oexB (K : PySem.W.Frag) (C : Addr) : Bool := match K.lookup C with
  | some ⟨.type "type", _, .cls cd, sl⟩ => (match cd.mro, sl.toList with
    | .ref C' :: bm, [_, _, _, _, some (.builtin n), _] => C' == C && n == "ValueError.__new__" && !cd.hasDel && cd.hasDict && PySem.HandSPX.refsVE bm
    | _, _ => false)
  | _ => false
theorem oexB_ok {K : PySem.W.Frag} {C : Addr} (q : oexB K C = true) : ∃ nm qn N bs bm sn sub ab col dd k0 k1 k2 k3 k5,
    K.lookup C = some (excClassObj nm qn C N bs bm true sn sub ab col dd k0 k1 k2 k3 k5 "ValueError.__new__") ∧ PySem.HandSPX.refsVE bm = true := by
  unfold oexB at q
  split at q
  · rename_i dd cd sl ho
    split at q
    · rename_i C' bm k0 k1 k2 k3 n k5 hm hs
      simp only [Bool.and_eq_true, beq_iff_eq, Bool.not_eq_true'] at q
      obtain ⟨⟨⟨⟨rfl, rfl⟩, hdel⟩, hdi⟩, ht⟩ := q
      obtain ⟨nm, bs, mro, ns, qn, hd, sn, sub, ab, col, del⟩ := cd
      dsimp only at hm hdel hdi
      subst hm hdel hdi
      have hsl : sl = #[k0, k1, k2, k3, some (.builtin "ValueError.__new__"), k5] := by
        obtain ⟨l⟩ := sl
        simp only at hs
        rw [hs]
      subst hsl
      exact ⟨nm, qn, ns, bs, bm, sn, sub, ab, col, dd, k0, k1, k2, k3, k5, ho, ht⟩
    · cases q
  · cases q
/-- the class BadLine -/
def badB (K : PySem.W.Frag) : Bool := oexB K (ga K "BadLine") && (decide (PySem.W.findIn K (.ref (ga K "BadLine")) "__setattr__" = some (some (.builtin "object.__setattr__"))) &&
  (decide (PySem.W.subIn K (.ref (ga K "BadLine")) (.type "BaseException") = some true) && (decide (PySem.W.typeIn K (.ref (ga K "BadLine")) = some (.type "type")) && (PySem.W.keepIn K (.ref (ga K "BadLine")) && xfB K (ga K "BadLine")))))
theorem badB_ok {K : PySem.W.Frag} (h : badB K = true) : OexC K (ga K "BadLine") ∧ XfC K (ga K "BadLine") := by
  obtain ⟨h1, h⟩ := ba h
  obtain ⟨h2, h⟩ := ba h
  obtain ⟨h3, h⟩ := ba h
  obtain ⟨h4, h⟩ := ba h
  obtain ⟨h5, h6⟩ := ba h
  exact ⟨⟨oexB_ok h1, of_decide_eq_true h2, of_decide_eq_true h3, of_decide_eq_true h4, h5⟩, xfB_ok h6⟩
/-- a def's code object, its table -/
def ctAt (K : PySem.W.Frag) (x : Str) : Addr × Addr := (PySem.W.tabIn K x).getD (0, 0)
def ctB (K : PySem.W.Frag) (x : Str) : Bool := decide (PySem.W.tabIn K x = some (ctAt K x)) && (K.lookup (ctAt K x).2).isNone
def tabs5 : List Str := ["are_ties", "need_standing", "is_instruction", "whole_in", "law"]
def apartB (K : PySem.W.Frag) : Bool := !([(ctAt K "are_ties").2, (ctAt K "need_standing").2, (ctAt K "is_instruction").2, (ctAt K "whole_in").2].contains (ctAt K "law").2)
def moreB (K : PySem.W.Frag) : Bool := badB K && (tabs5.all (fun x => ctB K x) && (apartB K && tupB K "ASKING" [.str "get", .str "plus", .str "minus", .str "set"]))
/-! ### the hook -/
def obsX (fa : List Fa) (fn : List FnD) (K : PySem.W.Frag) : Bool × He.Al := (moreB K, obsE fa fn K)
def hookX (n : Nat) (fa : List Fa) (fn : List FnD) : PySem.W.Hook where
  α := Bool × He.Al
  obs := fun s => obsX fa fn (frG s.heap.get? (reachN s.heap.get? n))
  val := fun _ => (true, valE fn)
  says := fun _ h => ∃ K : PySem.W.Frag, K.In h ∧ moreB K = true ∧ SaysE fa fn K
  of := fun _ _ e => ⟨_, frG_in, (Prod.mk.inj e).1, (Prod.mk.inj e).2⟩
  keeps := fun _ _ _ ⟨K, hK, c⟩ k => ⟨K, PySem.W.Frag.In.keeps hK k, c⟩
def obsXG (n : Nat) (fa : List Fa) (fn : List FnD) (g : Addr → Option Obj) : Bool × He.Al := obsX fa fn (frG g (reachN g n))
theorem obsXG_eq {n : Nat} {fa : List Fa} {fn : List FnD} {g : Addr → Option Obj} {s : Shared} (h : ∀ a, g a = s.heap.get? a) : obsXG n fa fn g = (hookX n fa fn).obs s := by
  have e : g = s.heap.get? := funext h
  rw [e] <;> rfl
def faX0 : List Fa := [.free "isinstance",
  .free "int",
  .free "bool",
  .free "str",
  .free "tuple",
  .free "list",
  .free "len",
  .free "all",
  .free "zip",
  .free "sorted",
  .free "range",
  .free "set",
  .free "enumerate",
  .free "min",
  .int "LEAST_PLACES" 2,
  .int "MOST_PLACES" 7,
  .int "MOST_KEPT" 6000,
  .int "GREATEST" 1000000,
  .str "FIGURES" "0123456789",
  .glo "ASKING",
  .glo "BadLine",
  .glo "BadString",
  .exc "BadString",
  .noat "BadLine" "line",
  .noat "BadLine" "place",
  .meth "BadLine" "__init__",
  .exm "BadLine" "BadLine" true,
  .exm "BadString" "BadLine" false,
  .exm "BadString" "BadString" true,
  .glo "is_number"]
def faX1 : List Fa := [.glo "are_ties",
  .glo "need_yard",
  .glo "near",
  .glo "hanging",
  .glo "need_standing",
  .glo "is_instruction",
  .glo "need_rows",
  .glo "need_number",
  .glo "words_in",
  .glo "whole_in",
  .glo "need_text",
  .glo "lines_in",
  .glo "taken",
  .glo "need_end",
  .glo "write_yard",
  .glo "number_line",
  .glo "read_yard",
  .glo "standing_text",
  .glo "write_standing",
  .glo "read_standing",
  .glo "write_program",
  .glo "instruction_in",
  .glo "read_program",
  .glo "_law_taken",
  .glo "_law_pick",
  .glo "_law_alike",
  .glo "_law_yard",
  .glo "_law_standing",
  .glo "_law_program",
  .glo "_law_kept"]
def faX2 : List Fa := [.glo "_law_said_session",
  .glo "_law_loose",
  .glo "_law_bent",
  .glo "_law_line",
  .glo "law",
  .keep "is_number",
  .keep "are_ties",
  .keep "need_yard",
  .keep "near",
  .keep "hanging",
  .keep "need_standing",
  .keep "is_instruction",
  .keep "need_rows",
  .keep "need_number",
  .keep "words_in",
  .keep "whole_in",
  .keep "need_text",
  .keep "lines_in",
  .keep "taken",
  .keep "need_end",
  .keep "write_yard",
  .keep "number_line",
  .keep "read_yard",
  .keep "standing_text",
  .keep "write_standing",
  .keep "read_standing",
  .keep "write_program",
  .keep "instruction_in",
  .keep "read_program",
  .keep "_law_taken"]
def faX3 : List Fa := [.keep "_law_pick",
  .keep "_law_alike",
  .keep "_law_yard",
  .keep "_law_standing",
  .keep "_law_program",
  .keep "_law_kept",
  .keep "_law_said_session",
  .keep "_law_loose",
  .keep "_law_bent",
  .keep "_law_line",
  .keep "law"]
def faX : List Fa := faX0 ++ faX1 ++ faX2 ++ faX3
def fnX0 : List FnD := [⟨("is_number", none), "is_number", "is_number", defArgs s_is_number, defBody s_is_number, defScope s_is_number⟩,
  ⟨("are_ties", none), "are_ties", "are_ties", defArgs s_are_ties, defBody s_are_ties, defScope s_are_ties⟩,
  ⟨("need_yard", none), "need_yard", "need_yard", defArgs s_need_yard, defBody s_need_yard, defScope s_need_yard⟩,
  ⟨("near", none), "near", "near", defArgs s_near, defBody s_near, defScope s_near⟩,
  ⟨("hanging", none), "hanging", "hanging", defArgs s_hanging, defBody s_hanging, defScope s_hanging⟩,
  ⟨("need_standing", none), "need_standing", "need_standing", defArgs s_need_standing, defBody s_need_standing, defScope s_need_standing⟩,
  ⟨("is_instruction", none), "is_instruction", "is_instruction", defArgs s_is_instruction, defBody s_is_instruction, defScope s_is_instruction⟩,
  ⟨("need_rows", none), "need_rows", "need_rows", defArgs s_need_rows, defBody s_need_rows, defScope s_need_rows⟩,
  ⟨("need_number", none), "need_number", "need_number", defArgs s_need_number, defBody s_need_number, defScope s_need_number⟩,
  ⟨("words_in", none), "words_in", "words_in", defArgs s_words_in, defBody s_words_in, defScope s_words_in⟩,
  ⟨("whole_in", none), "whole_in", "whole_in", defArgs s_whole_in, defBody s_whole_in, defScope s_whole_in⟩,
  ⟨("need_text", none), "need_text", "need_text", defArgs s_need_text, defBody s_need_text, defScope s_need_text⟩,
  ⟨("lines_in", none), "lines_in", "lines_in", defArgs s_lines_in, defBody s_lines_in, defScope s_lines_in⟩,
  ⟨("taken", none), "taken", "taken", defArgs s_taken, defBody s_taken, defScope s_taken⟩,
  ⟨("need_end", none), "need_end", "need_end", defArgs s_need_end, defBody s_need_end, defScope s_need_end⟩,
  ⟨("write_yard", none), "write_yard", "write_yard", defArgs s_write_yard, defBody s_write_yard, defScope s_write_yard⟩,
  ⟨("number_line", none), "number_line", "number_line", defArgs s_number_line, defBody s_number_line, defScope s_number_line⟩,
  ⟨("read_yard", none), "read_yard", "read_yard", defArgs s_read_yard, defBody s_read_yard, defScope s_read_yard⟩,
  ⟨("standing_text", none), "standing_text", "standing_text", defArgs s_standing_text, defBody s_standing_text, defScope s_standing_text⟩,
  ⟨("write_standing", none), "write_standing", "write_standing", defArgs s_write_standing, defBody s_write_standing, defScope s_write_standing⟩,
  ⟨("read_standing", none), "read_standing", "read_standing", defArgs s_read_standing, defBody s_read_standing, defScope s_read_standing⟩,
  ⟨("write_program", none), "write_program", "write_program", defArgs s_write_program, defBody s_write_program, defScope s_write_program⟩,
  ⟨("instruction_in", none), "instruction_in", "instruction_in", defArgs s_instruction_in, defBody s_instruction_in, defScope s_instruction_in⟩,
  ⟨("read_program", none), "read_program", "read_program", defArgs s_read_program, defBody s_read_program, defScope s_read_program⟩,
  ⟨("_law_taken", none), "_law_taken", "_law_taken", defArgs s_law_taken, defBody s_law_taken, defScope s_law_taken⟩,
  ⟨("_law_pick", none), "_law_pick", "_law_pick", defArgs s_law_pick, defBody s_law_pick, defScope s_law_pick⟩,
  ⟨("_law_alike", none), "_law_alike", "_law_alike", defArgs s_law_alike, defBody s_law_alike, defScope s_law_alike⟩,
  ⟨("_law_yard", none), "_law_yard", "_law_yard", defArgs s_law_yard, defBody s_law_yard, defScope s_law_yard⟩,
  ⟨("_law_standing", none), "_law_standing", "_law_standing", defArgs s_law_standing, defBody s_law_standing, defScope s_law_standing⟩,
  ⟨("_law_program", none), "_law_program", "_law_program", defArgs s_law_program, defBody s_law_program, defScope s_law_program⟩]
def fnX1 : List FnD := [⟨("_law_kept", none), "_law_kept", "_law_kept", defArgs s_law_kept, defBody s_law_kept, defScope s_law_kept⟩,
  ⟨("_law_said_session", none), "_law_said_session", "_law_said_session", defArgs s_law_said_session, defBody s_law_said_session, defScope s_law_said_session⟩,
  ⟨("_law_loose", none), "_law_loose", "_law_loose", defArgs s_law_loose, defBody s_law_loose, defScope s_law_loose⟩,
  ⟨("_law_bent", none), "_law_bent", "_law_bent", defArgs s_law_bent, defBody s_law_bent, defScope s_law_bent⟩,
  ⟨("_law_line", none), "_law_line", "_law_line", defArgs s_law_line, defBody s_law_line, defScope s_law_line⟩,
  ⟨("law", none), "law", "law", defArgs s_law, defBody s_law, defScope s_law⟩,
  ⟨("BadLine", some "__init__"), "__init__", "BadLine.__init__", defArgs (inClass (topS 7) 0), defBody (inClass (topS 7) 0), defScope (inClass (topS 7) 0)⟩]
def fnX : List FnD := fnX0 ++ fnX1
end HK
set_option Elab.async false
set_option linter.all false
set_option maxRecDepth 100000
set_option maxHeartbeats 0
/-! The run of the top. Printed by mkhead.py. -/
namespace HK
open PySem PySem.Spec PyProof.Rows L2 SX He
abbrev RX : PySem.W.OpenRow := PySem.W.OpenLaw.row PySem.Challenge.rw_holestore_k14_whole_texts
abbrev qX : Program := PySem.W.view RX.prog [12, 17, 22, 29, 55]
abbrev hkX : PySem.W.Hook := hookX 4 faX fnX
def obX (s : PySem.W.SharedT) : Bool × He.Al := obsXG 4 faX fnX (HandSHeadRun.getT s)
theorem obX_eq (s : PySem.W.SharedT) : obX s = hkX.obs s.abs := obsXG_eq (HandSHeadRun.getT_eq s)
def looseX0 : List Str := ["StoreError",
  "BadYard",
  "BadStanding",
  "BadProgram",
  "BadNumber",
  "BadString",
  "BadLine",
  "LEAST_PLACES",
  "MOST_PLACES",
  "MOST_KEPT",
  "GREATEST",
  "ASKING",
  "FIGURES",
  "is_number",
  "need_yard",
  "near",
  "hanging",
  "need_rows",
  "need_number",
  "words_in",
  "need_text",
  "lines_in",
  "taken",
  "need_end",
  "write_yard",
  "number_line",
  "read_yard",
  "standing_text",
  "write_standing",
  "read_standing"]
def looseX1 : List Str := ["write_program",
  "instruction_in",
  "read_program",
  "_law_taken",
  "_law_pick",
  "_law_alike",
  "_law_yard",
  "_law_standing",
  "_law_program",
  "_law_kept",
  "_law_said_session",
  "_law_loose",
  "_law_bent",
  "_law_line"]
def looseX : List Str := looseX0 ++ looseX1
theorem runX (w : World) : HandSHeadRun.RunEq RX qX hkX obX 4000 looseX w := by
  intro os
  kernel_rfl
end HK
set_option Elab.async false
set_option linter.all false
set_option maxRecDepth 100000
set_option maxHeartbeats 2000000
/-! What the top has left, as the defs take it. Printed by mkhead.py. -/
namespace HK
open PySem PySem.Spec PyProof.Rows L2 SX He
section
variable {K : PySem.W.Frag} {h : Heap} {mg : Str → Option Value}
theorem df_of (X : K.In h) (G : h.Ns mainGlobals mg) (c : SaysE faX fnX K) (i : Nat) {x : Str} {st : Stmt} {ps : List Str} (hd : fnX[i]? = some ⟨(x, none), x, x, defArgs st, defBody st, defScope st⟩) (hg : (Fa.glo x).ok K = true) (hk : (Fa.keep x).ok K = true)
    (hb : ∀ (kV doc pm : Value) (an : Option Addr) (cdv ct : Value) (us : List Value), us.length = ps.length → bindArgs (PySem.W.fnOf x x (defArgs st) (defBody st) (defScope st) .none kV doc pm an cdv ct) ⟨us, []⟩ = pure (ps.zip us)) : Df K mg x st ps := by
  obtain ⟨oc, od, osl, kV, doc, pm, an, cdv, ct, l, cd⟩ := c.def_ i hd
  have F : L2.Fun K x x st (ga K x) _ := fun_mk l cd (keep_ok hk)
  exact ⟨_, _, F, glo_ok X G hg, F.binds hb⟩
theorem code_of {x : Str} {oc : Value} {od an : Option Addr} {osl : Array (Option Value)} {ar : Arguments} {bd : List Stmt} {sc : Scope} {kV doc pm cdv ct : Value} {cP : Addr × Addr} (hg : (Fa.glo x).ok K = true) (ht : PySem.W.tabIn K x = some cP)
    (l : K.lookup (ga K x) = some ⟨oc, od, .func (PySem.W.fnOf x x ar bd sc .none kV doc pm an cdv ct), osl⟩) : cdv = .ref cP.1 := by
  unfold PySem.W.tabIn at ht
  rw [eqO_ok hg] at ht
  simp only [l] at ht
  cases cdv with
  | ref c0 =>
    simp only at ht
    split at ht
    · split at ht
      · rw [← Option.some.inj ht]
      · cases ht
    · cases ht
  | _ => cases ht
theorem ct_ok {x : Str} (m : ctB K x = true) : PySem.W.tabIn K x = some (ctAt K x) ∧ K.lookup (ctAt K x).2 = none := by
  obtain ⟨h1, h2⟩ := ba m
  exact ⟨of_decide_eq_true h1, Option.isNone_iff_eq_none.mp h2⟩
theorem dc_of (X : K.In h) (G : h.Ns mainGlobals mg) (c : SaysE faX fnX K) (i : Nat) {x : Str} {st : Stmt} {ps : List Str} (hd : fnX[i]? = some ⟨(x, none), x, x, defArgs st, defBody st, defScope st⟩) (hg : (Fa.glo x).ok K = true) (hk : (Fa.keep x).ok K = true) (m : ctB K x = true)
    (hb : ∀ (kV doc pm : Value) (an : Option Addr) (cdv ct : Value) (us : List Value), us.length = ps.length → bindArgs (PySem.W.fnOf x x (defArgs st) (defBody st) (defScope st) .none kV doc pm an cdv ct) ⟨us, []⟩ = pure (ps.zip us)) : Dc K mg x st ps (ctAt K x).1 := by
  obtain ⟨oc, od, osl, kV, doc, pm, an, cdv, ct, l, cd⟩ := c.def_ i hd
  have e : cdv = .ref (ctAt K x).1 := code_of hg (ct_ok m).1 l
  subst e
  exact ⟨_, oc, od, kV, doc, pm, an, ct, osl, l, cd, keep_ok hk, glo_ok X G hg, .all (hb kV doc pm an _ ct)⟩
def adX (K : PySem.W.Frag) : Ad where
  aA := ga K "ASKING"
  CB := ga K "BadLine"
  CS := ga K "BadString"
  fI := ma K (ga K "BadLine") "__init__"
  cT := (ctAt K "are_ties").1
  pT := (ctAt K "are_ties").2
  cS := (ctAt K "need_standing").1
  pS := (ctAt K "need_standing").2
  cI := (ctAt K "is_instruction").1
  pI := (ctAt K "is_instruction").2
  cW := (ctAt K "whole_in").1
  pW := (ctAt K "whole_in").2
  cL := (ctAt K "law").1
  pL := (ctAt K "law").2
theorem more_ok (m : moreB K = true) : badB K = true ∧ (∀ x ∈ tabs5, ctB K x = true) ∧ (adX K).pL ∉ (adX K).T ∧ tupB K "ASKING" [.str "get", .str "plus", .str "minus", .str "set"] = true := by
  obtain ⟨h1, m⟩ := ba m
  obtain ⟨h2, m⟩ := ba m
  obtain ⟨h3, h4⟩ := ba m
  refine ⟨h1, fun x hx => List.all_eq_true.mp h2 x hx, fun z => ?_, h4⟩
  have h3' : (!((adX K).T.contains (adX K).pL)) = true := h3
  have z' : (adX K).T.contains (adX K).pL = true := List.contains_iff_mem.mpr z
  rw [z'] at h3'
  cases h3'
theorem all_tx (X : K.In h) (G : h.Ns mainGlobals mg) (m : moreB K = true) (c : SaysE faX fnX K) : Tx K mg (adX K) := by
  obtain ⟨mB, mT, _, mA⟩ := more_ok m
  obtain ⟨oB, xB⟩ := badB_ok mB
  have ex := exc_ok (c.fact 22 (f := .exc "BadString") rfl)
  have me := meth_ok (c.fact 25 (f := .meth "BadLine" "__init__") rfl)
  exact {
    f_isinstance := free_ok X G (c.fact 0 (f := .free "isinstance") rfl)
    f_int := free_ok X G (c.fact 1 (f := .free "int") rfl)
    f_bool := free_ok X G (c.fact 2 (f := .free "bool") rfl)
    f_str := free_ok X G (c.fact 3 (f := .free "str") rfl)
    f_tuple := free_ok X G (c.fact 4 (f := .free "tuple") rfl)
    f_list := free_ok X G (c.fact 5 (f := .free "list") rfl)
    f_len := free_ok X G (c.fact 6 (f := .free "len") rfl)
    f_all := free_ok X G (c.fact 7 (f := .free "all") rfl)
    f_zip := free_ok X G (c.fact 8 (f := .free "zip") rfl)
    f_sorted := free_ok X G (c.fact 9 (f := .free "sorted") rfl)
    f_range := free_ok X G (c.fact 10 (f := .free "range") rfl)
    f_set := free_ok X G (c.fact 11 (f := .free "set") rfl)
    f_enumerate := free_ok X G (c.fact 12 (f := .free "enumerate") rfl)
    f_min := free_ok X G (c.fact 13 (f := .free "min") rfl)
    c_LEAST_PLACES := by obtain ⟨t, e⟩ := int_ok X G (c.fact 14 (f := .int "LEAST_PLACES" 2) rfl); exact ⟨_, e, ⟨t, rfl⟩⟩
    c_MOST_PLACES := by obtain ⟨t, e⟩ := int_ok X G (c.fact 15 (f := .int "MOST_PLACES" 7) rfl); exact ⟨_, e, ⟨t, rfl⟩⟩
    c_MOST_KEPT := by obtain ⟨t, e⟩ := int_ok X G (c.fact 16 (f := .int "MOST_KEPT" 6000) rfl); exact ⟨_, e, ⟨t, rfl⟩⟩
    c_GREATEST := by obtain ⟨t, e⟩ := int_ok X G (c.fact 17 (f := .int "GREATEST" 1000000) rfl); exact ⟨_, e, ⟨t, rfl⟩⟩
    c_FIGURES := by obtain ⟨t, e⟩ := str_ok X G (c.fact 18 (f := .str "FIGURES" "0123456789") rfl); exact ⟨_, e, ⟨t, rfl⟩⟩
    c_ASKING := ⟨_, glo_ok X G (c.fact 19 (f := .glo "ASKING") rfl), rfl⟩
    t_ASKING := fun H => tupB_ok mA H
    d_is_number := df_of X G c 0 rfl (c.fact 29 (f := .glo "is_number") rfl) (c.fact 65 (f := .keep "is_number") rfl) (fun _ _ _ _ _ _ us hl => match us, hl with | [_, _, _], _ => rfl)
    d_are_ties := dc_of X G c 1 rfl (c.fact 30 (f := .glo "are_ties") rfl) (c.fact 66 (f := .keep "are_ties") rfl) (mT _ (by simp [tabs5])) (fun _ _ _ _ _ _ us hl => match us, hl with | [_, _], _ => rfl)
    d_need_yard := df_of X G c 2 rfl (c.fact 31 (f := .glo "need_yard") rfl) (c.fact 67 (f := .keep "need_yard") rfl) (fun _ _ _ _ _ _ us hl => match us, hl with | [_], _ => rfl)
    d_near := df_of X G c 3 rfl (c.fact 32 (f := .glo "near") rfl) (c.fact 68 (f := .keep "near") rfl) (fun _ _ _ _ _ _ us hl => match us, hl with | [_, _], _ => rfl)
    d_hanging := df_of X G c 4 rfl (c.fact 33 (f := .glo "hanging") rfl) (c.fact 69 (f := .keep "hanging") rfl) (fun _ _ _ _ _ _ us hl => match us, hl with | [_, _, _, _], _ => rfl)
    d_need_standing := dc_of X G c 5 rfl (c.fact 34 (f := .glo "need_standing") rfl) (c.fact 70 (f := .keep "need_standing") rfl) (mT _ (by simp [tabs5])) (fun _ _ _ _ _ _ us hl => match us, hl with | [_, _], _ => rfl)
    d_is_instruction := dc_of X G c 6 rfl (c.fact 35 (f := .glo "is_instruction") rfl) (c.fact 71 (f := .keep "is_instruction") rfl) (mT _ (by simp [tabs5])) (fun _ _ _ _ _ _ us hl => match us, hl with | [_, _, _, _], _ => rfl)
    d_need_rows := df_of X G c 7 rfl (c.fact 36 (f := .glo "need_rows") rfl) (c.fact 72 (f := .keep "need_rows") rfl) (fun _ _ _ _ _ _ us hl => match us, hl with | [_, _, _, _], _ => rfl)
    d_need_number := df_of X G c 8 rfl (c.fact 37 (f := .glo "need_number") rfl) (c.fact 73 (f := .keep "need_number") rfl) (fun _ _ _ _ _ _ us hl => match us, hl with | [_, _, _], _ => rfl)
    d_words_in := df_of X G c 9 rfl (c.fact 38 (f := .glo "words_in") rfl) (c.fact 74 (f := .keep "words_in") rfl) (fun _ _ _ _ _ _ us hl => match us, hl with | [_], _ => rfl)
    d_whole_in := dc_of X G c 10 rfl (c.fact 39 (f := .glo "whole_in") rfl) (c.fact 75 (f := .keep "whole_in") rfl) (mT _ (by simp [tabs5])) (fun _ _ _ _ _ _ us hl => match us, hl with | [_, _, _], _ => rfl)
    d_need_text := df_of X G c 11 rfl (c.fact 40 (f := .glo "need_text") rfl) (c.fact 76 (f := .keep "need_text") rfl) (fun _ _ _ _ _ _ us hl => match us, hl with | [_], _ => rfl)
    d_lines_in := df_of X G c 12 rfl (c.fact 41 (f := .glo "lines_in") rfl) (c.fact 77 (f := .keep "lines_in") rfl) (fun _ _ _ _ _ _ us hl => match us, hl with | [_], _ => rfl)
    d_taken := df_of X G c 13 rfl (c.fact 42 (f := .glo "taken") rfl) (c.fact 78 (f := .keep "taken") rfl) (fun _ _ _ _ _ _ us hl => match us, hl with | [_, _, _, _, _], _ => rfl)
    d_need_end := df_of X G c 14 rfl (c.fact 43 (f := .glo "need_end") rfl) (c.fact 79 (f := .keep "need_end") rfl) (fun _ _ _ _ _ _ us hl => match us, hl with | [_, _, _], _ => rfl)
    d_write_yard := df_of X G c 15 rfl (c.fact 44 (f := .glo "write_yard") rfl) (c.fact 80 (f := .keep "write_yard") rfl) (fun _ _ _ _ _ _ us hl => match us, hl with | [_], _ => rfl)
    d_number_line := df_of X G c 16 rfl (c.fact 45 (f := .glo "number_line") rfl) (c.fact 81 (f := .keep "number_line") rfl) (fun _ _ _ _ _ _ us hl => match us, hl with | [_, _, _, _, _], _ => rfl)
    d_read_yard := df_of X G c 17 rfl (c.fact 46 (f := .glo "read_yard") rfl) (c.fact 82 (f := .keep "read_yard") rfl) (fun _ _ _ _ _ _ us hl => match us, hl with | [_], _ => rfl)
    d_standing_text := df_of X G c 18 rfl (c.fact 47 (f := .glo "standing_text") rfl) (c.fact 83 (f := .keep "standing_text") rfl) (fun _ _ _ _ _ _ us hl => match us, hl with | [_], _ => rfl)
    d_write_standing := df_of X G c 19 rfl (c.fact 48 (f := .glo "write_standing") rfl) (c.fact 84 (f := .keep "write_standing") rfl) (fun _ _ _ _ _ _ us hl => match us, hl with | [_, _], _ => rfl)
    d_read_standing := df_of X G c 20 rfl (c.fact 49 (f := .glo "read_standing") rfl) (c.fact 85 (f := .keep "read_standing") rfl) (fun _ _ _ _ _ _ us hl => match us, hl with | [_, _], _ => rfl)
    d_write_program := df_of X G c 21 rfl (c.fact 50 (f := .glo "write_program") rfl) (c.fact 86 (f := .keep "write_program") rfl) (fun _ _ _ _ _ _ us hl => match us, hl with | [_, _], _ => rfl)
    d_instruction_in := df_of X G c 22 rfl (c.fact 51 (f := .glo "instruction_in") rfl) (c.fact 87 (f := .keep "instruction_in") rfl) (fun _ _ _ _ _ _ us hl => match us, hl with | [_, _, _], _ => rfl)
    d_read_program := df_of X G c 23 rfl (c.fact 52 (f := .glo "read_program") rfl) (c.fact 88 (f := .keep "read_program") rfl) (fun _ _ _ _ _ _ us hl => match us, hl with | [_, _], _ => rfl)
    d_law_taken := df_of X G c 24 rfl (c.fact 53 (f := .glo "_law_taken") rfl) (c.fact 89 (f := .keep "_law_taken") rfl) (fun _ _ _ _ _ _ us hl => match us, hl with | [_, _], _ => rfl)
    d_law_pick := df_of X G c 25 rfl (c.fact 54 (f := .glo "_law_pick") rfl) (c.fact 90 (f := .keep "_law_pick") rfl) (fun _ _ _ _ _ _ us hl => match us, hl with | [_, _], _ => rfl)
    d_law_alike := df_of X G c 26 rfl (c.fact 55 (f := .glo "_law_alike") rfl) (c.fact 91 (f := .keep "_law_alike") rfl) (fun _ _ _ _ _ _ us hl => match us, hl with | [_, _], _ => rfl)
    d_law_yard := df_of X G c 27 rfl (c.fact 56 (f := .glo "_law_yard") rfl) (c.fact 92 (f := .keep "_law_yard") rfl) (fun _ _ _ _ _ _ us hl => match us, hl with | [_, _], _ => rfl)
    d_law_standing := df_of X G c 28 rfl (c.fact 57 (f := .glo "_law_standing") rfl) (c.fact 93 (f := .keep "_law_standing") rfl) (fun _ _ _ _ _ _ us hl => match us, hl with | [_, _, _], _ => rfl)
    d_law_program := df_of X G c 29 rfl (c.fact 58 (f := .glo "_law_program") rfl) (c.fact 94 (f := .keep "_law_program") rfl) (fun _ _ _ _ _ _ us hl => match us, hl with | [_, _, _], _ => rfl)
    d_law_kept := df_of X G c 30 rfl (c.fact 59 (f := .glo "_law_kept") rfl) (c.fact 95 (f := .keep "_law_kept") rfl) (fun _ _ _ _ _ _ us hl => match us, hl with | [_, _, _], _ => rfl)
    d_law_said_session := df_of X G c 31 rfl (c.fact 60 (f := .glo "_law_said_session") rfl) (c.fact 96 (f := .keep "_law_said_session") rfl) (fun _ _ _ _ _ _ us hl => match us, hl with | [_], _ => rfl)
    d_law_loose := df_of X G c 32 rfl (c.fact 61 (f := .glo "_law_loose") rfl) (c.fact 97 (f := .keep "_law_loose") rfl) (fun _ _ _ _ _ _ us hl => match us, hl with | [_, _], _ => rfl)
    d_law_bent := df_of X G c 33 rfl (c.fact 62 (f := .glo "_law_bent") rfl) (c.fact 98 (f := .keep "_law_bent") rfl) (fun _ _ _ _ _ _ us hl => match us, hl with | [_, _, _], _ => rfl)
    d_law_line := df_of X G c 34 rfl (c.fact 63 (f := .glo "_law_line") rfl) (c.fact 99 (f := .keep "_law_line") rfl) (fun _ _ _ _ _ _ us hl => match us, hl with | [_, _], _ => rfl)
    d_law := dc_of X G c 35 rfl (c.fact 64 (f := .glo "law") rfl) (c.fact 100 (f := .keep "law") rfl) (mT _ (by simp [tabs5])) (fun _ _ _ _ _ _ us hl => match us, hl with | [_], _ => rfl)
    gB := glo_ok X G (c.fact 20 (f := .glo "BadLine") rfl)
    oB := oB
    iB := me.at_
    tI := beq_iff_eq.mp me.fn
    FI := by
      obtain ⟨oc, od, osl, kV, doc, pm, an, cdv, ct, l, cd⟩ := c.def_ 36 (d := ⟨("BadLine", some "__init__"), "__init__", "BadLine.__init__", defArgs (inClass (topS 7) 0), defBody (inClass (topS 7) 0), defScope (inClass (topS 7) 0)⟩) rfl
      have F : L2.Fun K "__init__" "BadLine.__init__" (inClass (topS 7) 0) (ma K (ga K "BadLine") "__init__") _ := fun_mk l cd me.kp
      exact ⟨_, F, F.binds (fun _ _ _ _ _ _ us hl => match us, hl with | [_, _, _], _ => rfl)⟩
    nL := noat_ok (c.fact 23 (f := .noat "BadLine" "line") rfl)
    nP := noat_ok (c.fact 24 (f := .noat "BadLine" "place") rfl)
    xB := xB
    gS := glo_ok X G (c.fact 21 (f := .glo "BadString") rfl)
    eS := ex.1
    kS := ex.2.1
    bS := ex.2.2.1
    yS := ex.2.2.2
    mBB := exm_ok (c.fact 26 (f := .exm "BadLine" "BadLine" true) rfl)
    mSB := exm_ok (c.fact 27 (f := .exm "BadString" "BadLine" false) rfl)
    mSS := exm_ok (c.fact 28 (f := .exm "BadString" "BadString" true) rfl) }
end
end HK
set_option Elab.async false
set_option linter.all false
set_option maxRecDepth 100000
set_option maxHeartbeats 4000000
/-! The end: the law over the head. -/
namespace HK
open PySem PySem.Spec PyProof.Rows L2 SX He
/-- what the ground tells of a def's code object and its table -/
def TabsTold (q : Program) (h : Heap) : Prop := ∀ (K : PySem.W.Frag) (x : Str) (cP : Addr × Addr), K.In h → ((recsOf q).find? (fun e => e.name == x)).isSome = true → PySem.W.tabIn K x = some cP →
  PySem.W.CodeHd h cP.1 cP.2 ∧ h.get? cP.2 = some { cls := .none, data := .fields #[] }
theorem walk_ofX {l : PySem.W.OpenLaw} {n k : Nat} {q : Program} {loose : List Str} {XP : (Str → Option Value) → Heap → Prop} {YP : World → Heap → Prop} {d : DefRec} {CX : World → CXT} {x : Str}
    (hn : l.most = some n) (hn2 : n ≤ sizeLine) (hdf : d.params.defaults = []) (hr : Room k callerA)
    (F : ∀ (w : World) (mg : Str → Option Value) (fa : Addr) (h : Heap), YP w h → h.Ns mainGlobals mg → mg d.name = some (.ref fa) → TabsTold q h → ∃ K : PySem.W.Frag, K.In h ∧ LamX.LawAtS l w K (CX w) k n x mg fa h)
    (hCX : ∀ (w : World) (H : Hp) (s : Shared) (e : Value) (s' : Shared), CX w [] H s (fun _ _ _ => False) e s' → False) :
    PySem.W.WalkO q loose XP YP l.row.toRowW d [] (fun f vs => PySem.call f vs) := by
  refine Att.attach_callB hn hdf fun w s₀ s₁ mg mb fa o pm cd doc a vs ns G Y ho hd hcd hmg hobj hints hlen hbits hg => ?_
  obtain ⟨K, KX, fd, cs, sp, hT, nT, C, hb, hsp, hF⟩ := F w mg fa _ Y G.T.g hmg fun K x cP X hf ht => by
    obtain ⟨dd, hr⟩ := Option.isSome_iff_exists.mp hf
    exact PySem.W.tab_of (c := cP.1) (P := cP.2) G.T X hr ht
  exact LamX.law_callTs KX G.T.g G.T.b G.T.builtins G.T.nolimit hg hT nT C G.T.bmain hobj hints (Nat.le_trans hlen hn2) hr hF hb (fun H hH hS => hsp H a ns hlen hbits hH hS) fun H e s' => hCX w H s₁ e s'
theorem told5 {h : Heap} (tt : TabsTold qX h) {K : PySem.W.Frag} (X : K.In h) (mT : ∀ x ∈ tabs5, ctB K x = true) : ∀ x ∈ tabs5, PySem.W.CodeHd h (ctAt K x).1 (ctAt K x).2 ∧ h.get? (ctAt K x).2 = some { cls := .none, data := .fields #[] } ∧ K.lookup (ctAt K x).2 = none := fun x hx => by
  obtain ⟨h1, h2⟩ := ct_ok (mT x hx)
  have hs : ((recsOf qX).find? (fun e => e.name == x)).isSome = true := by
    have all : tabs5.all (fun x => ((recsOf qX).find? (fun e => e.name == x)).isSome) = true := by decide +kernel
    exact List.all_eq_true.mp all x hx
  obtain ⟨a, b⟩ := tt K x _ X hs h1
  exact ⟨a, b, h2⟩
theorem gxTab {base : Heap} {mg : Str → Option Value} {c P : Addr} (t : LamX.TabB base mg c P) : GxR.TabB base mg c P := ⟨t.code, t.bm, t.gP⟩
theorem law_at {w : World} {K : PySem.W.Frag} {mg : Str → Option Value} {fa : Addr} {h : Heap} (X : K.In h) (G : h.Ns mainGlobals mg) (hfa : mg ("law" : Str) = some (.ref fa)) (tt : TabsTold qX h) (m : moreB K = true) (c : SaysE faX fnX K) :
    LamX.LawAtS PySem.Challenge.rw_holestore_k14_whole_texts w K (L2.CX (PySem.Challenge.rw_holestore_k14_whole_texts).prog w) 12 63 "_law_script" mg fa h := by
  have T := all_tx X G m c
  obtain ⟨_, mT, np, _⟩ := more_ok m
  have t5 := told5 tt X mT
  obtain ⟨f, oc, od, kV, doc, pm, an, ct, osl, lk, hcd, kp, g, b⟩ := T.d_law.ex
  have e := hfa.symm.trans g
  cases e
  refine ⟨PySem.W.fnOf "law" "law" (defArgs s_law) (defBody s_law) (defScope s_law) .none kV doc pm an (.ref (adX K).cL) ct, tabs5.map fun x => ctAt K x, spLaw K (adX K), fun p hp => ?_, fun p hp => ?_, fun p hp => ?_, fun s u => ?_, fun H a ns hl _ hH hS => ?_, fun base KB GB tB => ?_⟩
  · obtain ⟨x, hx, rfl⟩ := List.mem_map.mp hp
    exact (t5 x hx).2.1
  · obtain ⟨x, hx, rfl⟩ := List.mem_map.mp hp
    exact (t5 x hx).2.2
  · obtain ⟨x, hx, rfl⟩ := List.mem_map.mp hp
    exact (t5 x hx).1
  · exact .of_eq rfl
  · refine ⟨a, ns, rfl, hS, hl, fun P hP => ?_, hH _ (List.mem_map.mpr ⟨"law", by simp [tabs5], rfl⟩), fun _ => rfl⟩
    have k : ∀ x ∈ tabs5, GxR.TabG H (ctAt K x).2 := fun x hx => ⟨#[], hH _ (List.mem_map.mpr ⟨x, hx, rfl⟩), trivial⟩
    rcases List.mem_cons.mp hP with rfl | hP
    · exact k "are_ties" (by simp [tabs5])
    rcases List.mem_cons.mp hP with rfl | hP
    · exact k "need_standing" (by simp [tabs5])
    rcases List.mem_cons.mp hP with rfl | hP
    · exact k "is_instruction" (by simp [tabs5])
    rw [List.mem_singleton.mp hP]
    exact k "whole_in" (by simp [tabs5])
  · have k : ∀ x ∈ tabs5, GxR.TabB base mg (ctAt K x).1 (ctAt K x).2 := fun x hx => gxTab (tB _ (List.mem_map.mpr ⟨x, hx, rfl⟩))
    have B : Tbs base mg (adX K) := ⟨k "are_ties" (by simp [tabs5]), k "need_standing" (by simp [tabs5]), k "is_instruction" (by simp [tabs5]), k "whole_in" (by simp [tabs5]), k "law" (by simp [tabs5])⟩
    refine fn_of lk hcd sc_law (fun vs H Q E h => ?_) fun A outer s H vs Q E hr h => ?_
    · obtain ⟨_, _, rfl, _⟩ := h
      rfl
    · obtain ⟨a, ns, rfl, sq, h63, tb, tl, hQ⟩ := h
      exact law_a T B hr a ns Q hQ np h63 tb tl sq
end HK
open PySem PySem.W PySem.Calls PyProof.Rows
set_option maxHeartbeats 0 in
theorem PySem.Challenge.cw_holestore_k14_whole_texts_holds : PySem.Challenge.rw_holestore_k14_whole_texts.Holds := by
  w_on; o_law
  refine HandSHeadRun.head_any (r := OpenLaw.row PySem.Challenge.rw_holestore_k14_whole_texts) (q := HK.qX) (H := HK.hkX) (ob := HK.obX) (M := 4000) (loose := HK.looseX) (d := HandSHeadRun.topDef (OpenLaw.row PySem.Challenge.rw_holestore_k14_whole_texts).prog 55) (kwd := []) HK.obX_eq
    (by kernel_rfl) (fun s => by kernel_rfl) HK.runX (by kernel_rfl) (by kernel_rfl) (by kernel_rfl) (by rfl) (by first | assumption | decide +kernel) (by decide +kernel) ⟨rfl, rfl, rfl, rfl, rfl, by decide +kernel⟩ ?hw ?hc
  case hw => w_witness2
  case hc =>
    refine HK.walk_ofX (l := PySem.Challenge.rw_holestore_k14_whole_texts) (n := 63) (k := 12) (x := "_law_script") (CX := fun w => L2.CX (PySem.Challenge.rw_holestore_k14_whole_texts).prog w) rfl (by decide) (by kernel_rfl) ⟨rfl, by decide, by decide⟩ ?F (fun w H s e s' z => by obtain ⟨_, _, _, _, _, _, _, _, _, _, _, _, f⟩ := z; exact f)
    intro w mg fa h Y G hmg0 tt
    obtain ⟨K, KX, m, c⟩ := Y
    have hmg : mg ("law" : PySem.Str) = some (.ref fa) := by
      have e : (HandSHeadRun.topDef (OpenLaw.row PySem.Challenge.rw_holestore_k14_whole_texts).prog 55).name = ("law" : PySem.Str) := by kernel_rfl
      rw [← e]
      exact hmg0
    exact ⟨K, KX, HK.law_at KX G hmg tt m c⟩
